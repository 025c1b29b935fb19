/- The functions that one law reaches, each as a Lean function, and that Go's call comes to what it says. Condition of each: that the Lean function answers (is not none). -/
import Derived.Test.YtoebojnhchocaaaBx0
import Derived.Test.YtoebojnhchocaaaBx14
namespace Go.Proofs.Ytoebojnhchocaaa.B
open Go.RowKit Go.Proofs.bC.eg Go.Proofs.bC.iZ Go.Proofs.bC.jr
attribute [local go_sem] max2_int min2_int max_two min_two max_three min_three max_four min_four   -- for this text's walks alone
set_option linter.unusedVariables false
set_option linter.unusedSimpArgs false
/-! ### F185: function 185 -/
def vX (l1:List Int) (a2:Int) (l3:List Int) (x:Int):Bool:=rd l1 x == a2 && decide (rd l3 x < 0)
theorem YA {b1 b2 b3 : Nat} (A1 : Option Addr) (c1 : Nat) (l1 : List Int) (a2 : Int) (A3 : Option Addr) (c3 : Nat) (l3 : List Int) (w : World) (cE : Kd.C (Kd.int .i64) w A1 l1.length l1) (qN : Kd.C (Kd.int .i64) w A3 l3.length l3)
  (hb1:w.heap[b1]?=some (.cells #[.slice A1 l1.length c1] 28 (0,0))) (hb2:w.heap[b2]?=some (.cells #[.int .i64 a2] 2 (0,0))) (hb3:w.heap[b3]?=some (.cells #[.slice A3 l3.length c3] 28 (0,0))) (x:Int) (h0:0≤x) (h1:x < (l1.length:Int)) (h3:x < (l3.length:Int)) :
  Calls Try.prog 185 #[.int .i64 x,.pointer (some ⟨b1,0,none⟩),.pointer (some ⟨b2,0,none⟩),.pointer (some ⟨b3,0,none⟩)] w fun e w'=>e=.returned (.bool (vX l1 a2 l3 x))∧als w w':=by
 have Bj:w.cell? ⟨b1,0,none⟩=some (.slice A1 l1.length c1):=(av hb1 0).trans rfl
 have zD:w.cell? ⟨b2,0,none⟩=some (.int .i64 a2):=(av hb2 0).trans rfl
 have hq3:w.cell? ⟨b3,0,none⟩=some (.slice A3 l3.length c3):=(av hb3 0).trans rfl
 have xU:=ale hb1 0
 have hf2:=ale hb2 0
 have hf3:=ale hb3 0
 obtain ⟨ad1,e1,hcell1⟩:=Kd.bS cE x h0 h1
 obtain ⟨ad3,e3,ahC⟩:=Kd.bS qN x h0 h3
 cases e1
 cases e3
 have Xp:=decide_eq_true h0
 have Jc:=decide_eq_true h1
 have XH:=decide_eq_true h3
 have Xq:=eq_true h0
 have Xy:=eq_true h1
 have XI:=eq_true h3
 have HX:ak (vX l1 a2 l3 x=(rd l1 x == a2 && decide (rd l3 x < 0))):=⟨rfl⟩
 clear cE qN hb1 hb2 hb3 h0 h1 h3
 cases hd:(rd l1 x == a2) with
 | false =>
  rw [hd] at HX
  have HY:ak (vX l1 a2 l3 x=false):=⟨HX.out⟩
  clear HX
  go_enter Try.func185,Try.ntmps185
  go_wp2
  go_region
  go_wp2
  go_ret
  exact ⟨by rw [HY.out];first|rfl|simp [hd],by repeat (first|exact als.refl _|apply als.step)⟩
 | true =>
  rw [hd] at HX
  have HY:ak (vX l1 a2 l3 x=decide (rd l3 x < 0)):=⟨HX.out⟩
  clear HX
  go_enter Try.func185,Try.ntmps185
  go_wp2
  go_region
  go_wp2
  go_ret
  exact ⟨by rw [HY.out];first|rfl|simp [hd],by repeat (first|exact als.refl _|apply als.step)⟩
theorem YI (p : Int → Bool) (b1 : Nat) (b2 : Nat) (b3 : Nat) (A : Option Addr) (c : Nat) (l : List Int) (w : World) (hr : Kd.C (Kd.int .i64) w A l.length l)
 (hp:∀ j:Nat,j < l.length→∀ w1,Below w.heap.size w w1→Calls Try.prog 185 #[.int .i64 (rd l j),.pointer (some ⟨b1,0,none⟩),.pointer (some ⟨b2,0,none⟩),.pointer (some ⟨b3,0,none⟩)] w1 fun e w'=>e=.returned (.bool (p (rd l j)))∧Below w1.heap.size w1 w') :
 Calls Try.prog 188 #[.slice A l.length c,.func (.func 185) #[] #[.pointer (some ⟨b1,0,none⟩),.pointer (some ⟨b2,0,none⟩),.pointer (some ⟨b3,0,none⟩)]] w fun e w'=>e=.returned (.int .i64 (idxFrom p l 0))∧Below w.heap.size w w':=by
 have HR:=k0 hr
 have HP:=k0 hp
 have hlen:l.length≤9223372036854775807:=hr.2.1
 clear hr hp
 go_enter Try.func188,Try.ntmps188
 go_wp2_with fail
 go_loopw [8] (fun i wr=>∃ k:Nat,k≤l.length∧i=.int .i64 k∧ak (idxFrom p (l.drop k) k=idxFrom p l 0)∧ak (Below w.heap.size w wr)) (fun i _=>l.length - (intOf i).toNat)
 case atStart=>exact ⟨0,Nat.zero_le _,rfl,⟨by simp⟩,⟨Below.refl _ _⟩⟩
 case round =>
  obtain ⟨k,hk,rfl,HI,HB⟩:=hrel
  by_cases hlt:k < l.length
  case neg =>
   have HD:ak (idxFrom p l 0=-1):=⟨by rw [← HI.out,List.drop_of_length_le (by omega)];rfl⟩
   have hb:decide (k < l.length)=false:=by simp;omega
   go_wp2
   go_ret
   exact ⟨by rw [HD.out];rfl,HB.out⟩
  obtain ⟨ad,e,hcell⟩:=Kd.bS (Kd.bI HR.out HB.out) k (by omega) (by omega)
  cases e
  rw [Int.toNat_natCast] at hcell
  cases hpx:p (rd l k) with
  | true =>
   have HD:ak (idxFrom p l 0=k):=⟨by rw [← HI.out,Gj p l k hlt,hpx];rfl⟩
   have HX:=k0 hpx
   clear hpx
   go_wp2_with (go_at_call 185;refine (HP.out k hlt _ HB.out).mono ?_;rw [HX.out];rintro e w' ⟨rfl,aA⟩;have fl:=k0 (aG HB.out aA);clear aA)
   go_ret
   exact ⟨by rw [HD.out];rfl,fl.out⟩
  | false =>
   have HD:ak (idxFrom p (l.drop (k+1)) (k+1)=idxFrom p l 0):=⟨by rw [← HI.out,Gj p l k hlt,hpx];rfl⟩
   have HX:=k0 hpx
   clear hpx
   go_wp2_with (go_at_call 185;refine (HP.out k hlt _ HB.out).mono ?_;rw [HX.out];rintro e w' ⟨rfl,aA⟩;have fl:=k0 (aG HB.out aA);clear aA)
   go_roundw
   case rel=>exact ⟨k+1,by omega,by go_num,HD,fl⟩
   case measure=>simp [intOf];omega
theorem YH (p : Int → Bool) (b1 : Nat) (b2 : Nat) (b3 : Nat) (A : Option Addr) (c : Nat) (l : List Int) (w : World) (hr : Kd.C (Kd.int .i64) w A l.length l)
 (hp:∀ j:Nat,j < l.length→∀ w1,Below w.heap.size w w1→Calls Try.prog 185 #[.int .i64 (rd l j),.pointer (some ⟨b1,0,none⟩),.pointer (some ⟨b2,0,none⟩),.pointer (some ⟨b3,0,none⟩)] w1 fun e w'=>e=.returned (.bool (p (rd l j)))∧Below w1.heap.size w1 w') :
 Calls Try.prog 98 #[.slice A l.length c,.func (.func 185) #[] #[.pointer (some ⟨b1,0,none⟩),.pointer (some ⟨b2,0,none⟩),.pointer (some ⟨b3,0,none⟩)]] w fun e w'=>e=.returned (.bool (l.any p))∧Below w.heap.size w w':=by
 have HC:=YI p b1 b2 b3 A c l w hr hp
 have HX:ak (l.any p=decide (0≤idxFrom p l 0)):=⟨(Sg p l 0).symm⟩
 have ql:=k0 HC
 clear HC hr hp
 go_enter Try.func98,Try.ntmps98
 go_wp2_with (go_at_call 188;refine ql.out.mono ?_;rintro e w' ⟨rfl,aA⟩;have fl:=k0 aA;clear aA)
 go_ret
 exact ⟨by rw [HX.out];rfl,fl.out⟩
def oc.f (k:Nat) (l0:List Int) (l1:List Int) (a2:Int) (l3:List Int):Option Bool:=if (l0.all fun x=>decide (0≤x) && (decide (x < (l1.length:Int)) && decide (x < (l3.length:Int))))=true then some (l0.any (vX l1 a2 l3)) else none
theorem oc.mono:∀ a0 a1 a2 a3 k,aj (oc.f k a0 a1 a2 a3) (oc.f (k+1) a0 a1 a2 a3):=fun _ _ _ _ _ _ h=>h
set_option maxHeartbeats 8000000 in
set_option maxRecDepth 100000 in
theorem oc.calls {b1 b2 b3 : Nat} (k : Nat) (A0 : Option Addr) (c0 : Nat) (l0 : List Int) (A1 : Option Addr) (c1 : Nat) (l1 : List Int) (a2 : Int) (A3 : Option Addr) (c3 : Nat) (l3 : List Int) (r : Bool) (w : World) (cI : Kd.C (Kd.int .i64) w A0 l0.length l0) (hc0 : l0.length ≤ c0) (cE : Kd.C (Kd.int .i64) w A1 l1.length l1) (dW : l1.length ≤ c1) (qN : Kd.C (Kd.int .i64) w A3 l3.length l3) (hc3 : l3.length ≤ c3) (hb1 : w.heap[b1]? = some (.cells #[.slice A1 l1.length c1] 28 (0, 0))) (hb2 : w.heap[b2]? = some (.cells #[.int .i64 a2] 2 (0, 0))) (hb3 : w.heap[b3]? = some (.cells #[.slice A3 l3.length c3] 28 (0, 0))) (h : oc.f k l0 l1 a2 l3 = some r) :
  Calls Try.prog 98 #[.slice A0 l0.length c0,.func (.func 185) #[] #[.pointer (some ⟨b1,0,none⟩),.pointer (some ⟨b2,0,none⟩),.pointer (some ⟨b3,0,none⟩)]] w fun e w'=>e=.returned (.bool r)∧Below w.heap.size w w':=by
 unfold oc.f at h
 by_cases c:(l0.all fun x=>decide (0≤x) && (decide (x < (l1.length:Int)) && decide (x < (l3.length:Int))))=true
 case neg =>
  rw [if_neg c] at h
  exact absurd h (by simp)
 rw [if_pos c] at h
 obtain rfl:=Option.some.inj h
 refine YH (vX l1 a2 l3) b1 b2 b3 A0 c0 l0 w cI (fun j hj w1 hw1=>?_)
 have hx:rd l0 (j:Int) ∈ l0:=by
  rw [rd,Int.toNat_natCast,List.getD_eq_getElem?_getD,List.getElem?_eq_getElem hj]
  exact List.getElem_mem hj
 have hq:=List.all_eq_true.1 c _ hx
 simp only [Bool.and_eq_true,decide_eq_true_eq] at hq
 exact (YA A1 c1 l1 a2 A3 c3 l3 w1 (Kd.bI cE hw1) (Kd.bI qN hw1) (alg hb1 hw1) (alg hb2 hw1) (alg hb3 hw1) _ hq.1 hq.2.1 hq.2.2).mono fun e w' ⟨h1,h2⟩=>⟨h1,h2.below⟩
/-! ### F187: function 187 -/
mutual
def alv.l0 : Nat → List Int → Int → Int → Int → Int → List (List Int) → Option (List Int)
 | 0,_,_,_,_,_,_=>none
 | k+1,x1,x2,gO,jQ,bU,bN=>if jQ < gO then (if jQ=0 then (alv.j1 k x1 x2 jQ gO jQ true bU bN) else (if 0≤x2 then (alv.j1 k x1 x2 jQ gO jQ ((Go.bits .and .i64 (shr .i64 jQ x2) 1) == 1) bU bN) else (none))) else (some ([]:List Int))
def alv.j1 : Nat → List Int → Int → Int → Int → Int → Bool → Int → List (List Int) → Option (List Int)
 | 0,_,_,_,_,_,_,_,_=>none
 | k+1,x1,x2,x7,gO,jQ,alD,bU,bN=>if alD=true then (alv.l0 k x1 x2 gO (wrap64 (jQ+1)) bU bN) else (if 0≤bU then (if (bU:Int).toNat≤35184372088832 then ((some (List.replicate (bU:Int).toNat 0:List Int)).bind fun eT=>(alv.l1 k x1 x2 x7 eT gO jQ (eT.length:Int) 0 bU bN)) else (none)) else (none))
def alv.l1 : Nat → List Int → Int → Int → List Int → Int → Int → Int → Int → Int → List (List Int) → Option (List Int)
 | 0,_,_,_,_,_,_,_,_,_,_=>none
 | k+1,x1,x2,x7,x8,gO,jQ,TT,ano,bU,bN=>if ano < TT then (if 0≤ano then (if ano < (x8.length:Int) then (alv.l1 k x1 x2 x7 (x8.set (ano:Int).toNat (Go.bits .and .i64 (shr .i64 x7 ano) 1)) gO jQ TT (wrap64 (ano+1)) bU bN) else (none)) else (none)) else ((cG.f k bU bN x1 x8).bind fun t106=>(alv.l2 k x1 x2 x8 true gO jQ t106 (t106.length:Int) 0 bU bN))
def alv.l2 : Nat → List Int → Int → List Int → Bool → Int → Int → List Int → Int → Int → Int → List (List Int) → Option (List Int)
 | 0,_,_,_,_,_,_,_,_,_,_,_=>none
 | k+1,x1,x2,x8,alB,gO,jQ,Er,BC,rS,bU,bN=>if rS < BC then (if 0≤rS then (if rS < (Er.length:Int) then (if alB=true then (if rS < (x8.length:Int) then (if (rd x8 rS)=0 then (alv.l2 k x1 x2 x8 true gO jQ Er BC (wrap64 (rS+1)) bU bN) else (alv.l2 k x1 x2 x8 (decide ((rd Er rS) ≥ 0)) gO jQ Er BC (wrap64 (rS+1)) bU bN)) else (none)) else (alv.l2 k x1 x2 x8 false gO jQ Er BC (wrap64 (rS+1)) bU bN)) else (none)) else (none)) else (if alB=true then (if x8=[] then none else some x8) else (alv.l0 k x1 x2 gO (wrap64 (jQ+1)) bU bN))
end
def alv.f (k:Nat) (af:Int) (aa:List (List Int)) (l1:List Int) (a2:Int):Option (List Int):=if 0≤af then (alv.l0 k l1 a2 (shl .i64 1 af) 0 af aa) else (none)
theorem alv.cj : ∀ k, (∀ y0 y1 y2 y3 y4 y5, aj (alv.l0 k y0 y1 y2 y3 y4 y5) (alv.l0 (k + 1) y0 y1 y2 y3 y4 y5)) ∧ (∀ y0 y1 y2 y3 y4 y5 y6 y7, aj (alv.j1 k y0 y1 y2 y3 y4 y5 y6 y7) (alv.j1 (k + 1) y0 y1 y2 y3 y4 y5 y6 y7)) ∧ (∀ y0 y1 y2 y3 y4 y5 y6 y7 y8 y9, aj (alv.l1 k y0 y1 y2 y3 y4 y5 y6 y7 y8 y9) (alv.l1 (k + 1) y0 y1 y2 y3 y4 y5 y6 y7 y8 y9)) ∧ (∀ y0 y1 y2 y3 y4 y5 y6 y7 y8 y9 Et, aj (alv.l2 k y0 y1 y2 y3 y4 y5 y6 y7 y8 y9 Et) (alv.l2 (k + 1) y0 y1 y2 y3 y4 y5 y6 y7 y8 y9 Et))
 | 0=>⟨fun _ _ _ _ _ _ r h=>by simp [alv.l0] at h,fun _ _ _ _ _ _ _ _ r h=>by simp [alv.j1] at h,fun _ _ _ _ _ _ _ _ _ _ r h=>by simp [alv.l1] at h,fun _ _ _ _ _ _ _ _ _ _ _ r h=>by simp [alv.l2] at h⟩
 | k+1=>by
  obtain ⟨ali,ih1,ih2,ih3⟩:=alv.cj k
  refine ⟨?_, ?_, ?_, ?_⟩ <;> intros <;> (first | unfold alv.l0 | unfold alv.j1 | unfold alv.l1 | unfold alv.l2) <;> repeat' first
   | (with_reducible first|exact ali _ _ _ _ _ _|exact ih1 _ _ _ _ _ _ _ _|exact ih2 _ _ _ _ _ _ _ _ _ _|exact ih3 _ _ _ _ _ _ _ _ _ _ _|exact cG.mono _ _ _ _ _|exact aj.refl _|exact aj.none _|refine aj.ite ?_ ?_|refine aj.bind ?_ (fun _=>?_))
   | exact ali _ _ _ _ _ _|exact ih1 _ _ _ _ _ _ _ _|exact ih2 _ _ _ _ _ _ _ _ _ _|exact ih3 _ _ _ _ _ _ _ _ _ _ _|exact cG.mono _ _ _ _ _|exact aj.none _|refine aj.ite ?_ ?_|refine aj.bind ?_ (fun _=>?_)
theorem alv.mono:∀ a0 a1 a2 a3 k,aj (alv.f k a0 a1 a2 a3) (alv.f (k+1) a0 a1 a2 a3):=by
 intro a0 a1 a2 a3 k
 obtain ⟨ali,ih1,ih2,ih3⟩:=alv.cj k
 unfold alv.f
 repeat' first
  | (with_reducible first|exact ali _ _ _ _ _ _|exact ih1 _ _ _ _ _ _ _ _|exact ih2 _ _ _ _ _ _ _ _ _ _|exact ih3 _ _ _ _ _ _ _ _ _ _ _|exact cG.mono _ _ _ _ _|exact aj.refl _|exact aj.none _|refine aj.ite ?_ ?_|refine aj.bind ?_ (fun _=>?_))
  | exact ali _ _ _ _ _ _|exact ih1 _ _ _ _ _ _ _ _|exact ih2 _ _ _ _ _ _ _ _ _ _|exact ih3 _ _ _ _ _ _ _ _ _ _ _|exact cG.mono _ _ _ _ _|exact aj.none _|refine aj.ite ?_ ?_|refine aj.bind ?_ (fun _=>?_)
set_option maxHeartbeats 8000000 in
set_option maxRecDepth 100000 in
theorem alv.calls (k : Nat) (af : Int) (au : Option Addr) (aq : Nat) (aa : List (List Int)) (A1 : Option Addr) (c1 : Nat) (l1 : List Int) (a2 : Int) (r : List Int) (w : World) (cl : Kd.C (Kd.slice 2 (Kd.int .i64)) w au aa.length aa) (cn : aa.length ≤ aq) (cE : Kd.C (Kd.int .i64) w A1 l1.length l1) (dW : l1.length ≤ c1) (h : alv.f k af aa l1 a2 = some r) :
  Calls Try.prog 187 #[.agg #[.int .i64 af,.slice au aa.length aq],.slice A1 l1.length c1,.int .i64 a2] w fun e w'=>∃ cF:Value,e=.returned (cF)∧(r=[]→cF=.slice none 0 0)∧Kd.R (Kd.int .i64) 2 w' w.heap.size (fun _=>True) cF r∧Below w.heap.size w w':=by
 have kF:=Try.underlying31
 have alx:=k0 cl
 have di:=k0 cn
 clear cl cn
 have eP:=k0 cE
 have nk:=k0 dW
 clear cE dW
 have HB:=k0 (Below.refl w.heap.size w)
 have H:(if 0≤af then (alv.l0 k l1 a2 (shl .i64 1 af) 0 af aa) else (none))=some r:=h
 clear h
 replace H:=iS H;obtain ⟨c4,H⟩:=H
 have eV:=eq_true c4
 have ow:=decide_eq_true c4
 clear c4
 obtain ⟨kY,mz⟩:∃ j_:Int,(shl .i64 1 af)=j_:=⟨_,rfl⟩
 replace H:(alv.l0 k l1 a2 kY 0 af aa)=some r:=by first|(rw [mz] at H;exact H)|(simp only [mz] at H ⊢;exact H)
 have Rm:(IntKind.i64.wrap (1 * 2 ^ min af.toNat 64))=kY:=mz
 have Rn:af≤64→(IntKind.i64.wrap (1 * 2 ^ af.toNat))=kY:=aez mz
 have aiG:(IntKind.i64.wrap (2 ^ min af.toNat 64))=kY:=by have h_:=Rm;rw [Int.one_mul] at h_;exact h_
 have aiH:af≤64→(IntKind.i64.wrap (2 ^ af.toNat))=kY:=fun abF=>by have h_:=Rn abF;rw [Int.one_mul] at h_;exact h_
 have aiJ:(wrap64 (1 * 2 ^ min af.toNat 64))=kY:=(cQ _).symm.trans Rm
 have aiI:af≤64→(wrap64 (1 * 2 ^ af.toNat))=kY:=fun h_=>(cQ _).symm.trans (Rn h_)
 have H':=k0 H
 clear H
 go_enter Try.func187,Try.ntmps187
 go_wp2_with (first|((with_reducible refine cy (N:=3) rfl ?_);refine ec ?hg (N:=3) ?hd (cs:=#[.int .i64 af,.slice au aa.length aq]) (t:=31) ?hr ?_;(case hd=>rfl);(case hg=>rfl);(case hr=>first|(go_simp;done)|(go_simp;rfl));intro ai hg w6 aJ hb;have ah:=k0 (aJ);have cr:=k0 ((by rw [hg];exact (aU bl):w.heap.size≤ai));have eL:=cr;replace HB:=k0 (aG bl hb);clear hb aJ hg;have sq:w6.cell? ⟨ai,0,none⟩=some (.int .i64 af):=(av ah.out 0).trans rfl;have sr:w6.cell? ⟨ai,1,none⟩=some (.slice au aa.length aq):=(av ah.out 1).trans rfl;have sx:=ale ah.out 0;have sy:=ale ah.out 1))
 go_loopg [16] k (fun kq Mb w'=>∃ (eG:Int),Mb=.int .i64 eG∧ak (alv.l0 kq l1 a2 kY eG af aa=some r)∧ak (kq≤k)∧ak (w'.heap[ai]?=some (sO af au aa aq 31))∧ak (Below w.heap.size w w'))
 case atStart=>exact ⟨(0),rs,H',⟨Nat.le_refl _⟩,⟨bk⟩,⟨bl⟩⟩
 case round =>
  clear H'
  (try clear c4);(try clear eV);(try clear ow);(try clear sq);(try clear sr);(try clear sx);(try clear sy)
  obtain ⟨eG,rfl,HA,aM,ah,HB⟩:=hrel
  cases gk with
  | zero=>exact absurd HA.out (by simp [alv.l0])
  | succ k1 =>
   have H:=HA.out
   clear HA
   simp only [alv.l0] at H
   by_cases c8:eG < kY
   case neg =>
    rw [if_neg c8] at H
    have jw:decide (eG < kY)=false:=decide_eq_false c8
    clear c8
    obtain rfl:=Option.some.inj H
    go_wp2
    go_ret
    exact ⟨_,by first|rfl|(simp [bA,bB]<;>rfl)|(simp only [← mz];first|rfl|(simp [bA,bB]<;>rfl))|(simp [*,bA,bB]<;>rfl),rfl,by first|exact Kd.xo _ _ _ _ _|exact Kd.II _ _ _ _ _|exact Kd.I2 _ _ _ _ _|exact Kd.IU _ _ _ _ _|exact Kd.I0 _ _ _ _ _,bl⟩
   rw [if_pos c8] at H
   have jw:=decide_eq_true c8
   clear c8
   have HQ:=k0 H
   clear H
   go_upto_region 4 with (fail)
   go_cut [27] (fun Ek wc=>∃ (kq:Nat) (G7:Bool),Ek=.bool G7∧ak (alv.j1 kq l1 a2 eG kY eG G7 af aa=some r)∧ak (kq≤k1)∧ak (wc.heap[ai]?=some (sO af au aa aq 31))∧ak (Below w.heap.size w wc))
   case first =>
    have H:=HQ.out
    clear HQ
    by_cases c10:eG=0
    case neg =>
     rw [if_neg c10] at H
     have lA:(eG == 0)=false:=beq_eq_false_iff_ne.mpr c10
     have vQ:(eG != 0)=true:=bne_iff_ne.mpr c10
     (first|rw [lA]|(simp only [cQ,dr];rw [lA])|skip)
     replace H:=iS H;obtain ⟨c11,H⟩:=H
     have l_:=eq_true c11
     have amo:=decide_eq_true c11
     clear c11
     obtain ⟨Gl,mT⟩:∃ j_:Int,(shr .i64 eG a2)=j_:=⟨_,rfl⟩
     replace H:(alv.j1 k1 l1 a2 eG kY eG ((Go.bits .and .i64 (Gl) 1) == 1) af aa)=some r:=by first|(rw [mT] at H;exact H)|(simp only [mT] at H ⊢;exact H)
     have aiv:(eG / 2 ^ min a2.toNat 64)=Gl:=mT
     have aiw:a2≤64→(eG / 2 ^ a2.toNat)=Gl:=Tv mT
     have H':=k0 H
     clear H
     go_wp2
     go_meet
     case rel=>exact ⟨_,(((Go.bits .and .i64 (Gl) 1) == 1)),(by first|rfl|(simp;done)|(simp only [← mT]<;>(first|rfl|simp))|(simp [*];done)),(by first|exact H'|(rw [mT];exact H')|(rw [jN];exact H')|(rw [mz];exact H')),⟨by have:=aM.out;first|omega|exact Nat.le_refl _⟩,⟨bk⟩,⟨bl⟩⟩
    rw [if_pos c10] at H
    have lA:(eG == 0)=true:=beq_iff_eq.mpr c10
    have vQ:(eG != 0)=false:=bne_eq_false_iff_eq.mpr c10
    clear c10
    (first|rw [lA]|(simp only [cQ,dr];rw [lA])|skip)
    have H':=k0 H
    clear H
    go_wp2
    go_meet
    case rel=>exact ⟨_,(true),rs,(by first|exact H'|(rw [mT];exact H')|(rw [jN];exact H')|(rw [mz];exact H')),⟨by have:=aM.out;first|omega|exact Nat.le_refl _⟩,⟨bk⟩,⟨bl⟩⟩
   case rest =>
    clear HQ
    (try clear c4);(try clear eV);(try clear ow);(try clear c8);(try clear jw);(try clear c10);(try clear lA);(try clear vQ);(try clear c11);(try clear l_);(try clear amo);(try clear sq);(try clear sr);(try clear sx);(try clear sy)
    obtain ⟨kq,G7,rfl,HA,rT,ah,HB⟩:=hcut
    cases kq with
    | zero=>exact absurd HA.out (by simp [alv.j1])
    | succ wM =>
     have H:=HA.out
     clear HA
     simp only [alv.j1] at H
     by_cases c13:G7=true
     case neg =>
      replace c13:=Bool.eq_false_iff.mpr c13
      subst c13
      have H1:(if 0≤af then (if (af:Int).toNat≤35184372088832 then ((some (List.replicate (af:Int).toNat 0:List Int)).bind fun eT=>(alv.l1 wM l1 a2 eG eT kY eG (eT.length:Int) 0 af aa)) else (none)) else (none))=some r:=by rw [if_neg (show ¬ (false=true) by decide)] at H;exact H
      clear H
      have H:=H1
      clear H1
      replace H:=iS H;obtain ⟨c14,H⟩:=H
      have kC:=eq_true c14
      have AO:=decide_eq_true c14
      clear c14
      replace H:=iS H;obtain ⟨c15,H⟩:=H
      have kV:=eq_true c15
      have r8:=decide_eq_true c15
      clear c15
      obtain ⟨eT,eH⟩:∃ y_:List Int,y_=(List.replicate (af:Int).toNat 0):=⟨_,rfl⟩
      replace H:(alv.l1 wM l1 a2 eG eT kY eG (eT.length:Int) 0 af aa)=some r:=by first|(rw [eH];with_reducible exact H)|(have ax:=(Option.bind_some _ _).symm.trans H;rw [eH];with_reducible exact ax)|(have ax:=(Option.bind_some _ _).symm.trans H;with_reducible exact ax)|with_reducible exact H|(rw [eH];exact H)|exact H
      have alG:=k0 eH
      clear eH
      have H':=k0 H
      clear H
      have zk:wc.cell? ⟨ai,0,none⟩=some (.int .i64 af):=(av ah.out 0).trans rfl
      have zl:wc.cell? ⟨ai,1,none⟩=some (.slice au aa.length aq):=(av ah.out 1).trans rfl
      have zn:=ale ah.out 0
      have zo:=ale ah.out 1
      go_wp2_with (first|((with_reducible refine cy (N:=30) rfl ?_);refine Kd.yL (Kd.int .i64) _ 2 rfl (N:=30) rfl 28 _ _ rfl af rfl rfl Try.underlying28 (.int .i64 0) 8 lF rfl (by decide) (by omega) 0 (ok:=fun _=>True) (cC:=fun _=>True) rfl (fun _ hk=>hk) trivial oD (Nat.le_trans (Nat.mul_le_mul_right _ (oD:af.toNat≤35184372088832)) (by omega)) (Below.refl _ _) (Nat.le_refl _) ?_;intro dw nc sC hb ew ey;clear ew ey;(first|rw [← alG.out] at sC|(simp only [Int.reduceToNat] at sC;rw [← alG.out] at sC));have a_:=k0 (Kd.d_ sC (aU bl));replace ah:=k0 (alg (g:=ai) (o:=sO af au aa aq 31) bk hb);replace HB:=k0 (aG bl hb);clear hb sC;obtain ⟨amK,ru,xE⟩:=Kd.fh a_.out;subst xE))
      go_loopg [33] wM (fun kq v33 w'=>∃ (aln:List Int) (mE:Int),v33=.int .i64 mE∧ak (alv.l1 kq l1 a2 eG aln kY eG (eT.length:Int) mE af aa=some r)∧ak (kq≤wM)∧ak (Kd.R (Kd.int .i64) 2 w' w.heap.size (fun _=>True) (.slice amK eT.length ru) aln)∧ak (w'.heap[ai]?=some (sO af au aa aq 31))∧ak (Below w.heap.size w w'))
      case atStart=>exact ⟨(eT),(0),rs,H',⟨Nat.le_refl _⟩,⟨aR (a_.out)⟩,⟨bk⟩,⟨bl⟩⟩
      case round =>
       clear H'
       (try clear c4);(try clear eV);(try clear ow);(try clear c8);(try clear jw);(try clear c10);(try clear lA);(try clear vQ);(try clear c11);(try clear l_);(try clear amo);(try clear c13);(try clear c14);(try clear kC);(try clear AO);(try clear c15);(try clear kV);(try clear r8);(try clear zk);(try clear zl);(try clear sq);(try clear sr);(try clear zn);(try clear zo);(try clear sx);(try clear sy)
       obtain ⟨aln,mE,rfl,HA,dn,bG,ah,HB⟩:=hrel
       have jY:=(Kd.bn bG.out).1
       rw [jY] at bG
       (try simp only [jY])
       (try simp only [jY] at ah)
       cases gk with
       | zero=>exact absurd HA.out (by simp [alv.l1])
       | succ k3 =>
        have H:=HA.out
        clear HA
        simp only [alv.l1] at H
        by_cases c20:mE < (eT.length:Int)
        case neg =>
         rw [if_neg c20] at H
         have ot:decide (mE < (eT.length:Int))=false:=decide_eq_false c20
         (try simp only [jY] at ot)
         clear c20
         replace H:=Option.bind_eq_some_iff.mp H
         obtain ⟨t106,Mu,H⟩:=H
         replace H:(alv.l2 k3 l1 a2 aln true kY eG t106 (t106.length:Int) 0 af aa)=some r:=H
         have T_:=k0 Mu
         clear Mu
         have H':=k0 H
         clear H
         have CY:wr.cell? ⟨ai,0,none⟩=some (.int .i64 af):=(av ah.out 0).trans rfl
         have aaV:wr.cell? ⟨ai,1,none⟩=some (.slice au aa.length aq):=(av ah.out 1).trans rfl
         have C3:=ale ah.out 0
         have abl:=ale ah.out 1
         go_wp2_with (first|((with_reducible refine fo (f:=186) rfl ?_);refine fq (some 47) rfl rfl Try.func186 (by kernel_rfl) rfl #[.agg #[.int .i64 af,.slice au aa.length aq],.slice A1 l1.length c1,.slice amK aln.length ru] rfl gm ?_;(with_reducible refine (cG.calls k3 af _ _ aa _ _ l1 _ _ aln t106 _ ?bt ?bu ?dZ ?ez ?rO ?rP T_.out).mono ?_);(case bt=>exact aC (Kd.bI alx.out HB.out));(case bu=>exact di.out);(case dZ=>exact aC (Kd.bI eP.out HB.out));(case ez=>exact nk.out);(case rO=>exact aC ((Kd.bn bG.out).2.2));(case rP=>exact (Kd.bn bG.out).2.1);rintro e w29 ⟨v107,rfl,aY,hb⟩;refine ⟨_,rfl,?_⟩;have uG:=k0 (Kd.d_ (Kd.alF aY (Kd.eZ (aR bG.out))) (aU bl));replace bG:=k0 (Kd.gK (aR bG.out) (Kd.dV aY) hb);replace ah:=k0 (alg (g:=ai) (o:=sO af au aa aq 31) bk hb);replace HB:=k0 (aG bl hb);(try clear hb);(try clear aY);obtain ⟨amL,qA,Jx⟩:=Kd.fh uG.out;subst Jx))
         go_loopg [10,49] k3 (fun kq v10 v49 w'=>∃ (eN:Bool) (iq:Int),v10=.bool eN∧v49=.int .i64 iq∧ak (alv.l2 kq l1 a2 aln eN kY eG t106 (t106.length:Int) iq af aa=some r)∧ak (kq≤k3)∧ak (Kd.R (Kd.int .i64) 2 w' w.heap.size (fun k_=>some k_ ≠ ((.slice amL t106.length qA):Value).ownBlock) (.slice amK aln.length ru) aln)∧ak (Kd.R (Kd.int .i64) 2 w' w.heap.size (fun k_=>some k_ ≠ ((.slice amK aln.length ru):Value).ownBlock) (.slice amL t106.length qA) t106)∧ak (w'.heap[ai]?=some (sO af au aa aq 31))∧ak (Below w.heap.size w w'))
         case atStart=>exact ⟨(true),(0),rs,rs,H',⟨Nat.le_refl _⟩,⟨by (try simp only [jY]);(with_reducible repeat (first|apply Kd.bO|apply Kd.bR|apply Kd.alp));exact Kd.bx bG.out (fun _ hk=>hk.2)⟩,⟨by (try simp only [jY]);(with_reducible repeat (first|apply Kd.bO|apply Kd.bR|apply Kd.alp));exact Kd.bx uG.out (fun _ hk=>hk.2)⟩,⟨by (try simp only [jY]);exact bk⟩,⟨bl⟩⟩
         case round =>
          clear H'
          (try clear c4);(try clear eV);(try clear ow);(try clear c8);(try clear jw);(try clear c10);(try clear lA);(try clear vQ);(try clear c11);(try clear l_);(try clear amo);(try clear c13);(try clear c14);(try clear kC);(try clear AO);(try clear c15);(try clear kV);(try clear r8);(try clear c20);(try clear ot);(try clear c21);(try clear uQ);(try clear XA);(try clear c23);(try clear r9);(try clear anz);(try clear D5);(try clear zk);(try clear zl);(try clear CY);(try clear aaV);(try clear sq);(try clear sr);(try clear zn);(try clear zo);(try clear C3);(try clear abl);(try clear sx);(try clear sy);(try clear ab8);(try clear anz);(try clear D5)
          obtain ⟨eN,iq,rfl,rfl,HA,gI,bG,Am,ah,HB⟩:=hrel
          cases gk with
          | zero=>exact absurd HA.out (by simp [alv.l2])
          | succ k4 =>
           have H:=HA.out
           clear HA
           simp only [alv.l2] at H
           by_cases c31:iq < (t106.length:Int)
           case neg =>
            rw [if_neg c31] at H
            have ou:decide (iq < (t106.length:Int))=false:=decide_eq_false c31
            (try simp only [jY] at ou)
            clear c31
            by_cases c37:eN=true
            case neg =>
             replace c37:=Bool.eq_false_iff.mpr c37
             subst c37
             have H1:(alv.l0 k4 l1 a2 kY (wrap64 (eG+1)) af aa)=some r:=by rw [if_neg (show ¬ (false=true) by decide)] at H;exact H
             clear H
             have H:=H1
             clear H1
             have H':=k0 H
             clear H
             go_wp2
             (try simp only [← jY])
             first|go_roundg k4|(simp only [← mT];go_roundg k4)|(simp only [← jN];go_roundg k4)|(simp only [← mz];go_roundg k4)
             case measure=>have:=aM.out;have:=rT.out;have:=dn.out;have:=gI.out;omega
             case rel=>exact ⟨(wrap64 (eG+1)),rs,(by first|exact H'|(rw [mT];exact H')|(rw [jN];exact H')|(rw [mz];exact H')),⟨by have:=aM.out;have:=rT.out;have:=dn.out;have:=gI.out;omega⟩,⟨by (try simp only [jY]);exact bk⟩,⟨bl⟩⟩
            subst c37
            have H1:(if aln=[] then none else some aln)=some r:=by rw [if_pos rfl] at H;exact H
            clear H
            have H:=H1
            clear H1
            have anY:aln ≠ []:=fun h_=>by rw [if_pos h_] at H;exact absurd H (by simp)
            rw [if_neg anY] at H
            obtain rfl:=Option.some.inj H
            have Vh:=k0 anY
            clear anY H
            go_wp2
            go_ret
            exact ⟨_,by first|rfl|(simp [bA,bB]<;>rfl)|(simp only [← mz];first|rfl|(simp [bA,bB]<;>rfl))|(simp [*,bA,bB]<;>rfl),fun h_=>absurd h_ Vh.out,by (with_reducible repeat (first|apply Kd.bO|apply Kd.bR|apply Kd.alp));exact Kd.bx bG.out (fun _ hk=>trivial),bl⟩
           rw [if_pos c31] at H
           have ou:=decide_eq_true c31
           (try simp only [jY] at ou)
           clear c31
           replace H:=iS H;obtain ⟨c32,H⟩:=H
           have OC:=decide_eq_true c32
           clear c32
           replace H:=iS H;obtain ⟨c33,H⟩:=H
           have Cm:=decide_eq_true c33
           (try simp only [jY] at Cm)
           clear c33
           by_cases c34:eN=true
           case neg =>
            replace c34:=Bool.eq_false_iff.mpr c34
            subst c34
            have H1:(alv.l2 k4 l1 a2 aln false kY eG t106 (t106.length:Int) (wrap64 (iq+1)) af aa)=some r:=by rw [if_neg (show ¬ (false=true) by decide)] at H;exact H
            clear H
            have H:=H1
            clear H1
            have H':=k0 H
            clear H
            have eD:0≤(iq:Int):=oD
            have er:iq < (t106.length:Int):=oD
            obtain ⟨lK,e109,alI⟩:=Kd.bS (Kd.bn Am.out).2.2 iq eD er
            cases e109
            replace eD:=eq_true eD
            replace er:=eq_true er
            go_wp2
            first|go_roundg k4|(simp only [← mT];go_roundg k4)|(simp only [← jN];go_roundg k4)|(simp only [← mz];go_roundg k4)
            case measure=>have:=aM.out;have:=rT.out;have:=dn.out;have:=gI.out;omega
            case rel=>exact ⟨(false),(wrap64 (iq+1)),rs,rs,(by first|exact H'|(rw [mT];exact H')|(rw [jN];exact H')|(rw [mz];exact H')),⟨by have:=aM.out;have:=rT.out;have:=dn.out;have:=gI.out;omega⟩,⟨by (try simp only [jY]);(with_reducible repeat (first|apply Kd.bO|apply Kd.bR|apply Kd.alp));exact bG.out⟩,⟨by (try simp only [jY]);(with_reducible repeat (first|apply Kd.bO|apply Kd.bR|apply Kd.alp));exact Am.out⟩,⟨by (try simp only [jY]);exact bk⟩,⟨bl⟩⟩
           subst c34
           have H1:(if iq < (aln.length:Int) then (if (rd aln iq)=0 then (alv.l2 k4 l1 a2 aln true kY eG t106 (t106.length:Int) (wrap64 (iq+1)) af aa) else (alv.l2 k4 l1 a2 aln (decide ((rd t106 iq) ≥ 0)) kY eG t106 (t106.length:Int) (wrap64 (iq+1)) af aa)) else (none))=some r:=by rw [if_pos rfl] at H;exact H
           clear H
           have H:=H1
           clear H1
           replace H:=iS H;obtain ⟨c35,H⟩:=H
           have AR:=decide_eq_true c35
           (try simp only [jY] at AR)
           clear c35
           by_cases c36:(rd aln iq)=0
           case neg =>
            rw [if_neg c36] at H
            have XF:((rd aln iq) == 0)=false:=beq_eq_false_iff_ne.mpr c36
            have XG:((rd aln iq) != 0)=true:=bne_iff_ne.mpr c36
            have H':=k0 H
            clear H
            have eD:0≤(iq:Int):=oD
            have er:iq < (t106.length:Int):=oD
            obtain ⟨lK,e109,alI⟩:=Kd.bS (Kd.bn Am.out).2.2 iq eD er
            cases e109
            replace eD:=eq_true eD
            replace er:=eq_true er
            have jE:0≤(iq:Int):=oD
            have jF:iq < (aln.length:Int):=oD
            obtain ⟨lf,e110,kG⟩:=Kd.bS (Kd.bn bG.out).2.2 iq jE jF
            cases e110
            replace jE:=eq_true jE
            replace jF:=eq_true jF
            go_wp2
            first|go_roundg k4|(simp only [← mT];go_roundg k4)|(simp only [← jN];go_roundg k4)|(simp only [← mz];go_roundg k4)
            case measure=>have:=aM.out;have:=rT.out;have:=dn.out;have:=gI.out;omega
            case rel=>exact ⟨(decide ((rd t106 iq) ≥ 0)),(wrap64 (iq+1)),rs,rs,(by first|exact H'|(rw [mT];exact H')|(rw [jN];exact H')|(rw [mz];exact H')),⟨by have:=aM.out;have:=rT.out;have:=dn.out;have:=gI.out;omega⟩,⟨by (try simp only [jY]);(with_reducible repeat (first|apply Kd.bO|apply Kd.bR|apply Kd.alp));exact bG.out⟩,⟨by (try simp only [jY]);(with_reducible repeat (first|apply Kd.bO|apply Kd.bR|apply Kd.alp));exact Am.out⟩,⟨by (try simp only [jY]);exact bk⟩,⟨bl⟩⟩
           rw [if_pos c36] at H
           have XF:((rd aln iq) == 0)=true:=beq_iff_eq.mpr c36
           have XG:((rd aln iq) != 0)=false:=bne_eq_false_iff_eq.mpr c36
           clear c36
           have H':=k0 H
           clear H
           have eD:0≤(iq:Int):=oD
           have er:iq < (t106.length:Int):=oD
           obtain ⟨lK,e109,alI⟩:=Kd.bS (Kd.bn Am.out).2.2 iq eD er
           cases e109
           replace eD:=eq_true eD
           replace er:=eq_true er
           have jE:0≤(iq:Int):=oD
           have jF:iq < (aln.length:Int):=oD
           obtain ⟨lf,e110,kG⟩:=Kd.bS (Kd.bn bG.out).2.2 iq jE jF
           cases e110
           replace jE:=eq_true jE
           replace jF:=eq_true jF
           go_wp2
           first|go_roundg k4|(simp only [← mT];go_roundg k4)|(simp only [← jN];go_roundg k4)|(simp only [← mz];go_roundg k4)
           case measure=>have:=aM.out;have:=rT.out;have:=dn.out;have:=gI.out;omega
           case rel=>exact ⟨(true),(wrap64 (iq+1)),rs,rs,(by first|exact H'|(rw [mT];exact H')|(rw [jN];exact H')|(rw [mz];exact H')),⟨by have:=aM.out;have:=rT.out;have:=dn.out;have:=gI.out;omega⟩,⟨by (try simp only [jY]);(with_reducible repeat (first|apply Kd.bO|apply Kd.bR|apply Kd.alp));exact bG.out⟩,⟨by (try simp only [jY]);(with_reducible repeat (first|apply Kd.bO|apply Kd.bR|apply Kd.alp));exact Am.out⟩,⟨by (try simp only [jY]);exact bk⟩,⟨bl⟩⟩
        rw [if_pos c20] at H
        have ot:=decide_eq_true c20
        (try simp only [jY] at ot)
        clear c20
        replace H:=iS H;obtain ⟨c21,H⟩:=H
        have uQ:=eq_true c21
        have XA:=decide_eq_true c21
        clear c21
        obtain ⟨jf,jN⟩:∃ j_:Int,(shr .i64 eG mE)=j_:=⟨_,rfl⟩
        replace H:(if mE < (aln.length:Int) then (alv.l1 k3 l1 a2 eG (aln.set (mE:Int).toNat (Go.bits .and .i64 (jf) 1)) kY eG (eT.length:Int) (wrap64 (mE+1)) af aa) else (none))=some r:=by first|(rw [jN] at H;exact H)|(simp only [jN] at H ⊢;exact H)
        have aix:(eG / 2 ^ min mE.toNat 64)=jf:=jN
        have aiz:mE≤64→(eG / 2 ^ mE.toNat)=jf:=Tv jN
        replace H:=iS H;obtain ⟨c23,H⟩:=H
        have r9:=decide_eq_true c23
        (try simp only [jY] at r9)
        clear c23
        obtain ⟨jn,alC⟩:∃ y_:List Int,y_=(aln.set (mE:Int).toNat (Go.bits .and .i64 (jf) 1)):=⟨_,rfl⟩
        replace H:(alv.l1 k3 l1 a2 eG jn kY eG (eT.length:Int) (wrap64 (mE+1)) af aa)=some r:=by first|(rw [alC];with_reducible exact H)|(have ax:=(Option.bind_some _ _).symm.trans H;rw [alC];with_reducible exact ax)|(have ax:=(Option.bind_some _ _).symm.trans H;with_reducible exact ax)|with_reducible exact H|(rw [alC];exact H)|exact H
        have lJ:=k0 alC
        clear alC
        have H':=k0 H
        clear H
        have anz:0≤(mE:Int):=oD
        have D5:(mE:Int) < ((aln.length:Int):Int):=oD
        obtain ⟨JU,OT,Fy,Py,ZW,ahb,an2⟩:=Kd.kT bG.out (by omega)
        (first|cases Fy|(injection Fy with aW aly c_;(first|subst aW|(injection aW with aW;subst aW));subst c_;clear aly))
        have UO:=k0 Py
        have afM:=k0 an2
        clear Py ZW an2
        obtain ⟨ab8,ah0⟩:=Kd.js 0 bG.out (mE:Int) anz D5
        replace anz:=eq_true anz
        replace D5:=eq_true D5
        have qm:=Kd.kr bG.out (mE:Int) (Go.bits .and .i64 (jf) 1)
        go_wp2_with (first|((with_reducible refine kW (t:=2) (p:=42) rfl ?_);refine alT (t:=2) (p:=42) (v:=?afd) (w1:=(wr.setCell ⟨JU,(mE:Int).toNat,none⟩ (.int .i64 (Go.bits .and .i64 (jf) 1)))) ?hg ?ho ?hn ?hr ?_;(case ho=>rfl);(case hg=>rfl);(case hn=>rfl);(case hr=>first|(go_simp;done)|(go_simp;rfl));intro wV hw;have hg:wr.grownBy wV (some JU):=(by rw [hw];exact qm.2);have dO:Kd.R (Kd.int .i64) 2 wV w.heap.size (fun _=>True) (.slice (some ⟨JU,0,none⟩) aln.length ru) jn:=(by rw [hw,lJ.out];exact qm.1);clear qm;replace ah:=k0 (jv (g:=ai) (o:=sO af au aa aq 31) bk hg (Kd.iG bG.out ah.out (by decide)));replace bG:=k0 (dO);replace HB:=k0 ((by rw [hw];exact dI (HB.out) UO.out:Below w.heap.size w wV));clear hg hw dO))
        (try simp only [← jY])
        first|go_roundg k3|(simp only [← mT];go_roundg k3)|(simp only [← jN];go_roundg k3)|(simp only [← mz];go_roundg k3)
        case measure=>have:=aM.out;have:=rT.out;have:=dn.out;omega
        case rel=>exact ⟨(jn),(wrap64 (mE+1)),rs,(by first|exact H'|(rw [mT];exact H')|(rw [jN];exact H')|(rw [mz];exact H')),⟨by have:=aM.out;have:=rT.out;have:=dn.out;omega⟩,⟨by (try simp only [jY]);(with_reducible repeat (first|apply Kd.bO|apply Kd.bR|apply Kd.alp));exact bG.out⟩,⟨by (try simp only [jY]);exact bk⟩,⟨bl⟩⟩
     subst c13
     have H1:(alv.l0 wM l1 a2 kY (wrap64 (eG+1)) af aa)=some r:=by rw [if_pos rfl] at H;exact H
     clear H
     have H:=H1
     clear H1
     have H':=k0 H
     clear H
     go_wp2
     first|go_roundg wM|(simp only [← mT];go_roundg wM)|(simp only [← jN];go_roundg wM)|(simp only [← mz];go_roundg wM)
     case measure=>have:=aM.out;have:=rT.out;omega
     case rel=>exact ⟨(wrap64 (eG+1)),rs,(by first|exact H'|(rw [mT];exact H')|(rw [jN];exact H')|(rw [mz];exact H')),⟨by have:=aM.out;have:=rT.out;omega⟩,⟨bk⟩,⟨bl⟩⟩
end Go.Proofs.Ytoebojnhchocaaa.B
/- Set with little white space, by a program. -/
