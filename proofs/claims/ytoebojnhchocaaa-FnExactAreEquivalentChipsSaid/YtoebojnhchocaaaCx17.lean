/- The functions that one law reaches, each as a Lean function, and that Go's call comes to what it says. Condition of each: that the Lean function answers (is not none). -/
import Derived.Test.YtoebojnhchocaaaCx0
import Derived.Test.YtoebojnhchocaaaCx13
namespace Go.Proofs.Ytoebojnhchocaaa.C
open Go.RowKit Go.Proofs.bI.en Go.Proofs.bI.je Go.Proofs.bI.jC
attribute [local go_sem] max2_int min2_int max_two min_two max_three min_three max_four min_four   -- for this text's walks alone
set_option linter.unusedVariables false
set_option linter.unusedSimpArgs false
/-! ### F185: function 185 -/
def vo (l1:List Int) (a2:Int) (l3:List Int) (x:Int):Bool:=rd l1 x == a2 && decide (rd l3 x < 0)
theorem XC {b1 b2 b3 : Nat} (A1 : Option Addr) (c1 : Nat) (l1 : List Int) (a2 : Int) (A3 : Option Addr) (c3 : Nat) (l3 : List Int) (w : World) (cQ : Kd.C (Kd.int .i64) w A1 l1.length l1) (qo : Kd.C (Kd.int .i64) w A3 l3.length l3)
  (hb1:w.heap[b1]?=some (.cells #[.slice A1 l1.length c1] 28 (0,0))) (hb2:w.heap[b2]?=some (.cells #[.int .i64 a2] 2 (0,0))) (hb3:w.heap[b3]?=some (.cells #[.slice A3 l3.length c3] 28 (0,0))) (x:Int) (h0:0≤x) (h1:x < (l1.length:Int)) (h3:x < (l3.length:Int)) :
  Calls Try.prog 185 #[.int .i64 x,.pointer (some ⟨b1,0,none⟩),.pointer (some ⟨b2,0,none⟩),.pointer (some ⟨b3,0,none⟩)] w fun e w'=>e=.returned (.bool (vo l1 a2 l3 x))∧bP w w':=by
 have al6:w.cell? ⟨b1,0,none⟩=some (.slice A1 l1.length c1):=(av hb1 0).trans rfl
 have yT:w.cell? ⟨b2,0,none⟩=some (.int .i64 a2):=(av hb2 0).trans rfl
 have hq3:w.cell? ⟨b3,0,none⟩=some (.slice A3 l3.length c3):=(av hb3 0).trans rfl
 have alG:=aH hb1 0
 have E6:=aH hb2 0
 have hf3:=aH hb3 0
 obtain ⟨ad1,e1,hcell1⟩:=Kd.bH cQ x h0 h1
 obtain ⟨ad3,e3,agS⟩:=Kd.bH qo x h0 h3
 cases e1
 cases e3
 have Wk:=decide_eq_true h0
 have H6:=decide_eq_true h1
 have c3b:=decide_eq_true h3
 have Wl:=eq_true h0
 have Ws:=eq_true h1
 have c3p:=eq_true h3
 have HX:au (vo l1 a2 l3 x=(rd l1 x == a2 && decide (rd l3 x < 0))):=⟨rfl⟩
 clear cQ qo hb1 hb2 hb3 h0 h1 h3
 cases hd:(rd l1 x == a2) with
 | false =>
  rw [hd] at HX
  have HY:au (vo l1 a2 l3 x=false):=⟨HX.out⟩
  clear HX
  go_enter Try.func185,Try.ntmps185
  go_wp2
  go_region
  go_wp2
  go_ret
  exact ⟨by rw [HY.out];first|rfl|simp [hd],by repeat (first|exact bP.refl _|apply bP.step)⟩
 | true =>
  rw [hd] at HX
  have HY:au (vo l1 a2 l3 x=decide (rd l3 x < 0)):=⟨HX.out⟩
  clear HX
  go_enter Try.func185,Try.ntmps185
  go_wp2
  go_region
  go_wp2
  go_ret
  exact ⟨by rw [HY.out];first|rfl|simp [hd],by repeat (first|exact bP.refl _|apply bP.step)⟩
theorem XK (p : Int → Bool) (b1 : Nat) (b2 : Nat) (b3 : Nat) (A : Option Addr) (c : Nat) (l : List Int) (w : World) (hr : Kd.C (Kd.int .i64) w A l.length l)
 (hp:∀ j:Nat,j < l.length→∀ w1,Below w.heap.size w w1→Calls Try.prog 185 #[.int .i64 (rd l j),.pointer (some ⟨b1,0,none⟩),.pointer (some ⟨b2,0,none⟩),.pointer (some ⟨b3,0,none⟩)] w1 fun e w'=>e=.returned (.bool (p (rd l j)))∧Below w1.heap.size w1 w') :
 Calls Try.prog 188 #[.slice A l.length c,.func (.func 185) #[] #[.pointer (some ⟨b1,0,none⟩),.pointer (some ⟨b2,0,none⟩),.pointer (some ⟨b3,0,none⟩)]] w fun e w'=>e=.returned (.int .i64 (idxFrom p l 0))∧Below w.heap.size w w':=by
 have HR:=k0 hr
 have HP:=k0 hp
 have hlen:l.length≤9223372036854775807:=hr.2.1
 clear hr hp
 go_enter Try.func188,Try.ntmps188
 go_wp2_with fail
 go_loopw [8] (fun i wr=>∃ k:Nat,k≤l.length∧i=.int .i64 k∧au (idxFrom p (l.drop k) k=idxFrom p l 0)∧au (Below w.heap.size w wr)) (fun i _=>l.length - (intOf i).toNat)
 case atStart=>exact ⟨0,Nat.zero_le _,rfl,⟨by simp⟩,⟨Below.refl _ _⟩⟩
 case round =>
  obtain ⟨k,hk,rfl,HI,HB⟩:=hrel
  by_cases hlt:k < l.length
  case neg =>
   have HD:au (idxFrom p l 0=-1):=⟨by rw [← HI.out,List.drop_of_length_le (by omega)];rfl⟩
   have hb:decide (k < l.length)=false:=by simp;omega
   go_wp2
   go_ret
   exact ⟨by rw [HD.out];rfl,HB.out⟩
  obtain ⟨ad,e,hcell⟩:=Kd.bH (Kd.bA HR.out HB.out) k (by omega) (by omega)
  cases e
  rw [Int.toNat_natCast] at hcell
  cases hpx:p (rd l k) with
  | true =>
   have HD:au (idxFrom p l 0=k):=⟨by rw [← HI.out,FA p l k hlt,hpx];rfl⟩
   have HX:=k0 hpx
   clear hpx
   go_wp2_with (go_at_call 185;refine (HP.out k hlt _ HB.out).mono ?_;rw [HX.out];rintro e w' ⟨rfl,cB⟩;have fO:=k0 (aI HB.out cB);clear cB)
   go_ret
   exact ⟨by rw [HD.out];rfl,fO.out⟩
  | false =>
   have HD:au (idxFrom p (l.drop (k+1)) (k+1)=idxFrom p l 0):=⟨by rw [← HI.out,FA p l k hlt,hpx];rfl⟩
   have HX:=k0 hpx
   clear hpx
   go_wp2_with (go_at_call 185;refine (HP.out k hlt _ HB.out).mono ?_;rw [HX.out];rintro e w' ⟨rfl,cB⟩;have fO:=k0 (aI HB.out cB);clear cB)
   go_roundw
   case rel=>exact ⟨k+1,by omega,by go_num,HD,fO⟩
   case measure=>simp [intOf];omega
theorem XJ (p : Int → Bool) (b1 : Nat) (b2 : Nat) (b3 : Nat) (A : Option Addr) (c : Nat) (l : List Int) (w : World) (hr : Kd.C (Kd.int .i64) w A l.length l)
 (hp:∀ j:Nat,j < l.length→∀ w1,Below w.heap.size w w1→Calls Try.prog 185 #[.int .i64 (rd l j),.pointer (some ⟨b1,0,none⟩),.pointer (some ⟨b2,0,none⟩),.pointer (some ⟨b3,0,none⟩)] w1 fun e w'=>e=.returned (.bool (p (rd l j)))∧Below w1.heap.size w1 w') :
 Calls Try.prog 98 #[.slice A l.length c,.func (.func 185) #[] #[.pointer (some ⟨b1,0,none⟩),.pointer (some ⟨b2,0,none⟩),.pointer (some ⟨b3,0,none⟩)]] w fun e w'=>e=.returned (.bool (l.any p))∧Below w.heap.size w w':=by
 have HC:=XK p b1 b2 b3 A c l w hr hp
 have HX:au (l.any p=decide (0≤idxFrom p l 0)):=⟨(Q5 p l 0).symm⟩
 have pW:=k0 HC
 clear HC hr hp
 go_enter Try.func98,Try.ntmps98
 go_wp2_with (go_at_call 188;refine pW.out.mono ?_;rintro e w' ⟨rfl,cB⟩;have fO:=k0 cB;clear cB)
 go_ret
 exact ⟨by rw [HX.out];rfl,fO.out⟩
def nX.f (k:Nat) (l0:List Int) (l1:List Int) (a2:Int) (l3:List Int):Option Bool:=if (l0.all fun x=>decide (0≤x) && (decide (x < (l1.length:Int)) && decide (x < (l3.length:Int))))=true then some (l0.any (vo l1 a2 l3)) else none
theorem nX.mono:∀ a0 a1 a2 a3 k,aj (nX.f k a0 a1 a2 a3) (nX.f (k+1) a0 a1 a2 a3):=fun _ _ _ _ _ _ h=>h
set_option maxHeartbeats 8000000 in
set_option maxRecDepth 100000 in
theorem nX.calls {b1 b2 b3 : Nat} (k : Nat) (A0 : Option Addr) (c0 : Nat) (l0 : List Int) (A1 : Option Addr) (c1 : Nat) (l1 : List Int) (a2 : Int) (A3 : Option Addr) (c3 : Nat) (l3 : List Int) (r : Bool) (w : World) (dB : Kd.C (Kd.int .i64) w A0 l0.length l0) (hc0 : l0.length ≤ c0) (cQ : Kd.C (Kd.int .i64) w A1 l1.length l1) (ef : l1.length ≤ c1) (qo : Kd.C (Kd.int .i64) w A3 l3.length l3) (ZK : l3.length ≤ c3) (hb1 : w.heap[b1]? = some (.cells #[.slice A1 l1.length c1] 28 (0, 0))) (hb2 : w.heap[b2]? = some (.cells #[.int .i64 a2] 2 (0, 0))) (hb3 : w.heap[b3]? = some (.cells #[.slice A3 l3.length c3] 28 (0, 0))) (h : nX.f k l0 l1 a2 l3 = some r) :
  Calls Try.prog 98 #[.slice A0 l0.length c0,.func (.func 185) #[] #[.pointer (some ⟨b1,0,none⟩),.pointer (some ⟨b2,0,none⟩),.pointer (some ⟨b3,0,none⟩)]] w fun e w'=>e=.returned (.bool r)∧Below w.heap.size w w':=by
 unfold nX.f at h
 by_cases c:(l0.all fun x=>decide (0≤x) && (decide (x < (l1.length:Int)) && decide (x < (l3.length:Int))))=true
 case neg =>
  rw [if_neg c] at h
  exact absurd h (by simp)
 rw [if_pos c] at h
 obtain rfl:=Option.some.inj h
 refine XJ (vo l1 a2 l3) b1 b2 b3 A0 c0 l0 w dB (fun j hj w1 hw1=>?_)
 have hx:rd l0 (j:Int) ∈ l0:=by
  rw [rd,Int.toNat_natCast,List.getD_eq_getElem?_getD,List.getElem?_eq_getElem hj]
  exact List.getElem_mem hj
 have hq:=List.all_eq_true.1 c _ hx
 simp only [Bool.and_eq_true,decide_eq_true_eq] at hq
 exact (XC A1 c1 l1 a2 A3 c3 l3 w1 (Kd.bA cQ hw1) (Kd.bA qo hw1) (akj hb1 hw1) (akj hb2 hw1) (akj hb3 hw1) _ hq.1 hq.2.1 hq.2.2).mono fun e w' ⟨h1,h2⟩=>⟨h1,h2.below⟩
/-! ### F187: function 187 -/
mutual
def akt.l0 : Nat → List Int → Int → Int → Int → Int → List (List Int) → Option (List Int)
 | 0,_,_,_,_,_,_=>none
 | k+1,x1,x2,gx,jJ,bR,bJ=>if jJ < gx then (if jJ=0 then (akt.j1 k x1 x2 jJ gx jJ true bR bJ) else (if 0≤x2 then (akt.j1 k x1 x2 jJ gx jJ ((Go.bits .and .i64 (shr .i64 jJ x2) 1) == 1) bR bJ) else (none))) else (some ([]:List Int))
def akt.j1 : Nat → List Int → Int → Int → Int → Int → Bool → Int → List (List Int) → Option (List Int)
 | 0,_,_,_,_,_,_,_,_=>none
 | k+1,x1,x2,x7,gx,jJ,fT,bR,bJ=>if fT=true then (akt.l0 k x1 x2 gx (wrap64 (jJ+1)) bR bJ) else (if 0≤bR then (if (bR:Int).toNat≤35184372088832 then ((some (List.replicate (bR:Int).toNat 0:List Int)).bind fun eW=>(akt.l1 k x1 x2 x7 eW gx jJ (eW.length:Int) 0 bR bJ)) else (none)) else (none))
def akt.l1 : Nat → List Int → Int → Int → List Int → Int → Int → Int → Int → Int → List (List Int) → Option (List Int)
 | 0,_,_,_,_,_,_,_,_,_,_=>none
 | k+1,x1,x2,x7,x8,gx,jJ,SF,AX,bR,bJ=>if AX < SF then (if 0≤AX then (if AX < (x8.length:Int) then (akt.l1 k x1 x2 x7 (x8.set (AX:Int).toNat (Go.bits .and .i64 (shr .i64 x7 AX) 1)) gx jJ SF (wrap64 (AX+1)) bR bJ) else (none)) else (none)) else ((cF.f k bR bJ x1 x8).bind fun t106=>(akt.l2 k x1 x2 x8 true gx jJ t106 (t106.length:Int) 0 bR bJ))
def akt.l2 : Nat → List Int → Int → List Int → Bool → Int → Int → List Int → Int → Int → Int → List (List Int) → Option (List Int)
 | 0,_,_,_,_,_,_,_,_,_,_,_=>none
 | k+1,x1,x2,x8,fc,gx,jJ,DS,AY,ala,bR,bJ=>if ala < AY then (if 0≤ala then (if ala < (DS.length:Int) then (if fc=true then (if ala < (x8.length:Int) then (if (rd x8 ala)=0 then (akt.l2 k x1 x2 x8 true gx jJ DS AY (wrap64 (ala+1)) bR bJ) else (akt.l2 k x1 x2 x8 (decide ((rd DS ala) ≥ 0)) gx jJ DS AY (wrap64 (ala+1)) bR bJ)) else (none)) else (akt.l2 k x1 x2 x8 false gx jJ DS AY (wrap64 (ala+1)) bR bJ)) else (none)) else (none)) else (if fc=true then (if x8=[] then none else some x8) else (akt.l0 k x1 x2 gx (wrap64 (jJ+1)) bR bJ))
end
def akt.f (k:Nat) (af:Int) (aa:List (List Int)) (l1:List Int) (a2:Int):Option (List Int):=if 0≤af then (akt.l0 k l1 a2 (shl .i64 1 af) 0 af aa) else (none)
theorem akt.b8 : ∀ k, (∀ y0 y1 y2 y3 y4 y5, aj (akt.l0 k y0 y1 y2 y3 y4 y5) (akt.l0 (k + 1) y0 y1 y2 y3 y4 y5)) ∧ (∀ y0 y1 y2 y3 y4 y5 y6 y7, aj (akt.j1 k y0 y1 y2 y3 y4 y5 y6 y7) (akt.j1 (k + 1) y0 y1 y2 y3 y4 y5 y6 y7)) ∧ (∀ y0 y1 y2 y3 y4 y5 y6 y7 y8 y9, aj (akt.l1 k y0 y1 y2 y3 y4 y5 y6 y7 y8 y9) (akt.l1 (k + 1) y0 y1 y2 y3 y4 y5 y6 y7 y8 y9)) ∧ (∀ y0 y1 y2 y3 y4 y5 y6 y7 y8 y9 DU, aj (akt.l2 k y0 y1 y2 y3 y4 y5 y6 y7 y8 y9 DU) (akt.l2 (k + 1) y0 y1 y2 y3 y4 y5 y6 y7 y8 y9 DU))
 | 0=>⟨fun _ _ _ _ _ _ r h=>by simp [akt.l0] at h,fun _ _ _ _ _ _ _ _ r h=>by simp [akt.j1] at h,fun _ _ _ _ _ _ _ _ _ _ r h=>by simp [akt.l1] at h,fun _ _ _ _ _ _ _ _ _ _ _ r h=>by simp [akt.l2] at h⟩
 | k+1=>by
  obtain ⟨akk,ih1,ih2,ih3⟩:=akt.b8 k
  refine ⟨?_, ?_, ?_, ?_⟩ <;> intros <;> (first | unfold akt.l0 | unfold akt.j1 | unfold akt.l1 | unfold akt.l2) <;> repeat' first
   | (with_reducible first|exact akk _ _ _ _ _ _|exact ih1 _ _ _ _ _ _ _ _|exact ih2 _ _ _ _ _ _ _ _ _ _|exact ih3 _ _ _ _ _ _ _ _ _ _ _|exact cF.mono _ _ _ _ _|exact aj.refl _|exact aj.none _|refine aj.ite ?_ ?_|refine aj.bind ?_ (fun _=>?_))
   | exact akk _ _ _ _ _ _|exact ih1 _ _ _ _ _ _ _ _|exact ih2 _ _ _ _ _ _ _ _ _ _|exact ih3 _ _ _ _ _ _ _ _ _ _ _|exact cF.mono _ _ _ _ _|exact aj.none _|refine aj.ite ?_ ?_|refine aj.bind ?_ (fun _=>?_)
theorem akt.mono:∀ a0 a1 a2 a3 k,aj (akt.f k a0 a1 a2 a3) (akt.f (k+1) a0 a1 a2 a3):=by
 intro a0 a1 a2 a3 k
 obtain ⟨akk,ih1,ih2,ih3⟩:=akt.b8 k
 unfold akt.f
 repeat' first
  | (with_reducible first|exact akk _ _ _ _ _ _|exact ih1 _ _ _ _ _ _ _ _|exact ih2 _ _ _ _ _ _ _ _ _ _|exact ih3 _ _ _ _ _ _ _ _ _ _ _|exact cF.mono _ _ _ _ _|exact aj.refl _|exact aj.none _|refine aj.ite ?_ ?_|refine aj.bind ?_ (fun _=>?_))
  | exact akk _ _ _ _ _ _|exact ih1 _ _ _ _ _ _ _ _|exact ih2 _ _ _ _ _ _ _ _ _ _|exact ih3 _ _ _ _ _ _ _ _ _ _ _|exact cF.mono _ _ _ _ _|exact aj.none _|refine aj.ite ?_ ?_|refine aj.bind ?_ (fun _=>?_)
set_option maxHeartbeats 8000000 in
set_option maxRecDepth 100000 in
theorem akt.calls (k : Nat) (af : Int) (aq : Option Addr) (ak : Nat) (aa : List (List Int)) (A1 : Option Addr) (c1 : Nat) (l1 : List Int) (a2 : Int) (r : List Int) (w : World) (akv : Kd.C (Kd.slice 2 (Kd.int .i64)) w aq aa.length aa) (akw : aa.length ≤ ak) (cQ : Kd.C (Kd.int .i64) w A1 l1.length l1) (ef : l1.length ≤ c1) (h : akt.f k af aa l1 a2 = some r) :
  Calls Try.prog 187 #[.agg #[.int .i64 af,.slice aq aa.length ak],.slice A1 l1.length c1,.int .i64 a2] w fun e w'=>∃ dK:Value,e=.returned (dK)∧(r=[]→dK=.slice none 0 0)∧Kd.R (Kd.int .i64) 2 w' w.heap.size (fun _=>True) dK r∧Below w.heap.size w w':=by
 have j8:=Try.underlying31
 have bU:=k0 akv
 have cG:=k0 akw
 clear akv akw
 have ek:=k0 cQ
 have jZ:=k0 ef
 clear cQ ef
 have HB:=k0 (Below.refl w.heap.size w)
 have H:(if 0≤af then (akt.l0 k l1 a2 (shl .i64 1 af) 0 af aa) else (none))=some r:=h
 clear h
 replace H:=iS H;obtain ⟨c4,H⟩:=H
 have eA:=eq_true c4
 have mB:=decide_eq_true c4
 clear c4
 obtain ⟨kT,mG⟩:∃ j_:Int,(shl .i64 1 af)=j_:=⟨_,rfl⟩
 replace H:(akt.l0 k l1 a2 kT 0 af aa)=some r:=by first|(rw [mG] at H;exact H)|(simp only [mG] at H ⊢;exact H)
 have Ql:(IntKind.i64.wrap (1 * 2 ^ min af.toNat 64))=kT:=mG
 have Qm:af≤64→(IntKind.i64.wrap (1 * 2 ^ af.toNat))=kT:=ad0 mG
 have ahM:(IntKind.i64.wrap (2 ^ min af.toNat 64))=kT:=by have h_:=Ql;rw [Int.one_mul] at h_;exact h_
 have ahN:af≤64→(IntKind.i64.wrap (2 ^ af.toNat))=kT:=fun aa9=>by have h_:=Qm aa9;rw [Int.one_mul] at h_;exact h_
 have ahP:(wrap64 (1 * 2 ^ min af.toNat 64))=kT:=(akx _).symm.trans Ql
 have ahO:af≤64→(wrap64 (1 * 2 ^ af.toNat))=kT:=fun h_=>(akx _).symm.trans (Qm h_)
 have H':=k0 H
 clear H
 go_enter Try.func187,Try.ntmps187
 go_wp2_with (first|((with_reducible refine cj (N:=3) rfl ?_);refine dJ ?hg (N:=3) ?hd (cs:=#[.int .i64 af,.slice aq aa.length ak]) (t:=31) ?hr ?_;(case hd=>rfl);(case hg=>rfl);(case hr=>first|(go_simp;done)|(go_simp;rfl));intro ai hg w6 aK hb;have ag:=k0 (aK);have aks:=k0 ((by rw [hg];exact (aU bl):w.heap.size≤ai));have ej:=aks;replace HB:=k0 (aI bl hb);clear hb aK hg;have rN:w6.cell? ⟨ai,0,none⟩=some (.int .i64 af):=(av ag.out 0).trans rfl;have rO:w6.cell? ⟨ai,1,none⟩=some (.slice aq aa.length ak):=(av ag.out 1).trans rfl;have rQ:=aH ag.out 0;have rR:=aH ag.out 1))
 go_loopg [16] k (fun kq Le w'=>∃ (eJ:Int),Le=.int .i64 eJ∧au (akt.l0 kq l1 a2 kT eJ af aa=some r)∧au (kq≤k)∧au (w'.heap[ai]?=some (sO af aq aa ak 31))∧au (Below w.heap.size w w'))
 case atStart=>exact ⟨(0),rs,H',⟨Nat.le_refl _⟩,⟨bk⟩,⟨bl⟩⟩
 case round =>
  clear H'
  (try clear c4);(try clear eA);(try clear mB);(try clear rN);(try clear rO);(try clear rQ);(try clear rR)
  obtain ⟨eJ,rfl,HA,akl,ag,HB⟩:=hrel
  cases gk with
  | zero=>exact absurd HA.out (by simp [akt.l0])
  | succ k1 =>
   have H:=HA.out
   clear HA
   simp only [akt.l0] at H
   by_cases c8:eJ < kT
   case neg =>
    rw [if_neg c8] at H
    have iX:decide (eJ < kT)=false:=decide_eq_false c8
    clear c8
    obtain rfl:=Option.some.inj H
    go_wp2
    go_ret
    exact ⟨_,by first|rfl|(simp [bq,bt]<;>rfl)|(simp only [← mG];first|rfl|(simp [bq,bt]<;>rfl))|(simp [*,bq,bt]<;>rfl),rfl,by first|exact Kd.zQ _ _ _ _ _|exact Kd.UX _ _ _ _ _|exact Kd.Vz _ _ _ _ _|exact Kd.Ve _ _ _ _ _|exact Kd.Vt _ _ _ _ _,bl⟩
   rw [if_pos c8] at H
   have iX:=decide_eq_true c8
   clear c8
   have GV:=k0 H
   clear H
   go_upto_region 4 with (fail)
   go_cut [27] (fun DN wc=>∃ (kq:Nat) (Gl:Bool),DN=.bool Gl∧au (akt.j1 kq l1 a2 eJ kT eJ Gl af aa=some r)∧au (kq≤k1)∧au (wc.heap[ai]?=some (sO af aq aa ak 31))∧au (Below w.heap.size w wc))
   case first =>
    have H:=GV.out
    clear GV
    by_cases c10:eJ=0
    case neg =>
     rw [if_neg c10] at H
     have lB:(eJ == 0)=false:=beq_eq_false_iff_ne.mpr c10
     have u_:(eJ != 0)=true:=bne_iff_ne.mpr c10
     (first|rw [lB]|(simp only [akx,cu];rw [lB])|skip)
     replace H:=iS H;obtain ⟨c11,H⟩:=H
     have mz:=eq_true c11
     have sq:=decide_eq_true c11
     clear c11
     obtain ⟨FC,nh⟩:∃ j_:Int,(shr .i64 eJ a2)=j_:=⟨_,rfl⟩
     replace H:(akt.j1 k1 l1 a2 eJ kT eJ ((Go.bits .and .i64 (FC) 1) == 1) af aa)=some r:=by first|(rw [nh] at H;exact H)|(simp only [nh] at H ⊢;exact H)
     have ahB:(eJ / 2 ^ min a2.toNat 64)=FC:=nh
     have ahC:a2≤64→(eJ / 2 ^ a2.toNat)=FC:=Se nh
     have H':=k0 H
     clear H
     go_wp2
     go_meet
     case rel=>exact ⟨_,(((Go.bits .and .i64 (FC) 1) == 1)),(by first|rfl|(simp;done)|(simp only [← nh]<;>(first|rfl|simp))|(simp [*];done)),(by first|exact H'|(rw [nh];exact H')|(rw [jG];exact H')|(rw [mG];exact H')),⟨by have:=akl.out;first|omega|exact Nat.le_refl _⟩,⟨bk⟩,⟨bl⟩⟩
    rw [if_pos c10] at H
    have lB:(eJ == 0)=true:=beq_iff_eq.mpr c10
    have u_:(eJ != 0)=false:=bne_eq_false_iff_eq.mpr c10
    clear c10
    (first|rw [lB]|(simp only [akx,cu];rw [lB])|skip)
    have H':=k0 H
    clear H
    go_wp2
    go_meet
    case rel=>exact ⟨_,(true),rs,(by first|exact H'|(rw [nh];exact H')|(rw [jG];exact H')|(rw [mG];exact H')),⟨by have:=akl.out;first|omega|exact Nat.le_refl _⟩,⟨bk⟩,⟨bl⟩⟩
   case rest =>
    clear GV
    (try clear c4);(try clear eA);(try clear mB);(try clear c8);(try clear iX);(try clear c10);(try clear lB);(try clear u_);(try clear c11);(try clear mz);(try clear sq);(try clear rN);(try clear rO);(try clear rQ);(try clear rR)
    obtain ⟨kq,Gl,rfl,HA,alc,ag,HB⟩:=hcut
    cases kq with
    | zero=>exact absurd HA.out (by simp [akt.j1])
    | succ vM =>
     have H:=HA.out
     clear HA
     simp only [akt.j1] at H
     by_cases c13:Gl=true
     case neg =>
      replace c13:=Bool.eq_false_iff.mpr c13
      subst c13
      have H1:(if 0≤af then (if (af:Int).toNat≤35184372088832 then ((some (List.replicate (af:Int).toNat 0:List Int)).bind fun eW=>(akt.l1 vM l1 a2 eJ eW kT eJ (eW.length:Int) 0 af aa)) else (none)) else (none))=some r:=by rw [if_neg (show ¬ (false=true) by decide)] at H;exact H
      clear H
      have H:=H1
      clear H1
      replace H:=iS H;obtain ⟨c14,H⟩:=H
      have ku:=eq_true c14
      have z6:=decide_eq_true c14
      clear c14
      replace H:=iS H;obtain ⟨c15,H⟩:=H
      have kR:=eq_true c15
      have rH:=decide_eq_true c15
      clear c15
      obtain ⟨eW,eL⟩:∃ y_:List Int,y_=(List.replicate (af:Int).toNat 0):=⟨_,rfl⟩
      replace H:(akt.l1 vM l1 a2 eJ eW kT eJ (eW.length:Int) 0 af aa)=some r:=by first|(rw [eL];with_reducible exact H)|(have ay:=(Option.bind_some _ _).symm.trans H;rw [eL];with_reducible exact ay)|(have ay:=(Option.bind_some _ _).symm.trans H;with_reducible exact ay)|with_reducible exact H|(rw [eL];exact H)|exact H
      have gA:=k0 eL
      clear eL
      have H':=k0 H
      clear H
      have yw:wc.cell? ⟨ai,0,none⟩=some (.int .i64 af):=(av ag.out 0).trans rfl
      have yx:wc.cell? ⟨ai,1,none⟩=some (.slice aq aa.length ak):=(av ag.out 1).trans rfl
      have yB:=aH ag.out 0
      have yC:=aH ag.out 1
      go_wp2_with (first|((with_reducible refine cj (N:=30) rfl ?_);refine Kd.xU (Kd.int .i64) _ 2 rfl (N:=30) rfl 28 _ _ rfl af rfl rfl Try.underlying28 (.int .i64 0) 8 lH rfl (by decide) (by omega) 0 (ok:=fun _=>True) (cA:=fun _=>True) rfl (fun _ hk=>hk) trivial oD (Nat.le_trans (Nat.mul_le_mul_right _ (oD:af.toNat≤35184372088832)) (by omega)) (Below.refl _ _) (Nat.le_refl _) ?_;intro dx rX CC hb eB eC;clear eB eC;(first|rw [← gA.out] at CC|(simp only [Int.reduceToNat] at CC;rw [← gA.out] at CC));have bh:=k0 (Kd.dL CC (aU bl));replace ag:=k0 (akj (g:=ai) (o:=sO af aq aa ak 31) bk hb);replace HB:=k0 (aI bl hb);clear hb CC;obtain ⟨alA,qP,vp⟩:=Kd.eK bh.out;subst vp))
      go_loopg [33] vM (fun kq v33 w'=>∃ (aY:List Int) (mM:Int),v33=.int .i64 mM∧au (akt.l1 kq l1 a2 eJ aY kT eJ (eW.length:Int) mM af aa=some r)∧au (kq≤vM)∧au (Kd.R (Kd.int .i64) 2 w' w.heap.size (fun _=>True) (.slice alA eW.length qP) aY)∧au (w'.heap[ai]?=some (sO af aq aa ak 31))∧au (Below w.heap.size w w'))
      case atStart=>exact ⟨(eW),(0),rs,H',⟨Nat.le_refl _⟩,⟨aR (bh.out)⟩,⟨bk⟩,⟨bl⟩⟩
      case round =>
       clear H'
       (try clear c4);(try clear eA);(try clear mB);(try clear c8);(try clear iX);(try clear c10);(try clear lB);(try clear u_);(try clear c11);(try clear mz);(try clear sq);(try clear c13);(try clear c14);(try clear ku);(try clear z6);(try clear c15);(try clear kR);(try clear rH);(try clear yw);(try clear yx);(try clear rN);(try clear rO);(try clear yB);(try clear yC);(try clear rQ);(try clear rR)
       obtain ⟨aY,mM,rfl,HA,dg,bF,ag,HB⟩:=hrel
       have jS:=(Kd.bu bF.out).1
       rw [jS] at bF
       (try simp only [jS])
       (try simp only [jS] at ag)
       cases gk with
       | zero=>exact absurd HA.out (by simp [akt.l1])
       | succ k3 =>
        have H:=HA.out
        clear HA
        simp only [akt.l1] at H
        by_cases c20:mM < (eW.length:Int)
        case neg =>
         rw [if_neg c20] at H
         have og:decide (mM < (eW.length:Int))=false:=decide_eq_false c20
         (try simp only [jS] at og)
         clear c20
         replace H:=Option.bind_eq_some_iff.mp H
         obtain ⟨t106,LD,H⟩:=H
         replace H:(akt.l2 k3 l1 a2 aY true kT eJ t106 (t106.length:Int) 0 af aa)=some r:=H
         have S1:=k0 LD
         clear LD
         have H':=k0 H
         clear H
         have Cl:wr.cell? ⟨ai,0,none⟩=some (.int .i64 af):=(av ag.out 0).trans rfl
         have aaf:wr.cell? ⟨ai,1,none⟩=some (.slice aq aa.length ak):=(av ag.out 1).trans rfl
         have Ct:=aH ag.out 0
         have aaM:=aH ag.out 1
         go_wp2_with (first|((with_reducible refine cZ (f:=186) rfl ?_);refine c_ (some 47) rfl rfl Try.func186 (by kernel_rfl) rfl #[.agg #[.int .i64 af,.slice aq aa.length ak],.slice A1 l1.length c1,.slice alA aY.length qP] rfl gm ?_;(with_reducible refine (cF.calls k3 af _ _ aa _ _ l1 _ _ aY t106 _ ?akn ?aT ?cn ?cw ?ak8 ?ak9 S1.out).mono ?_);(case akn=>exact aC (Kd.bA bU.out HB.out));(case aT=>exact cG.out);(case cn=>exact aC (Kd.bA ek.out HB.out));(case cw=>exact jZ.out);(case ak8=>exact aC ((Kd.bu bF.out).2.2));(case ak9=>exact (Kd.bu bF.out).2.1);rintro e w29 ⟨v107,rfl,ake,hb⟩;refine ⟨_,rfl,?_⟩;have mQ:=k0 (Kd.dL (Kd.dW ake (Kd.cE (aR bF.out))) (aU bl));replace bF:=k0 (Kd.dV (aR bF.out) (Kd.bW ake) hb);replace ag:=k0 (akj (g:=ai) (o:=sO af aq aa ak 31) bk hb);replace HB:=k0 (aI bl hb);(try clear hb);(try clear ake);obtain ⟨r5,om,BO⟩:=Kd.eK mQ.out;subst BO))
         go_loopg [10,49] k3 (fun kq v10 v49 w'=>∃ (eP:Bool) (ia:Int),v10=.bool eP∧v49=.int .i64 ia∧au (akt.l2 kq l1 a2 aY eP kT eJ t106 (t106.length:Int) ia af aa=some r)∧au (kq≤k3)∧au (Kd.R (Kd.int .i64) 2 w' w.heap.size (fun k_=>some k_ ≠ ((.slice r5 t106.length om):Value).ownBlock) (.slice alA aY.length qP) aY)∧au (Kd.R (Kd.int .i64) 2 w' w.heap.size (fun k_=>some k_ ≠ ((.slice alA aY.length qP):Value).ownBlock) (.slice r5 t106.length om) t106)∧au (w'.heap[ai]?=some (sO af aq aa ak 31))∧au (Below w.heap.size w w'))
         case atStart=>exact ⟨(true),(0),rs,rs,H',⟨Nat.le_refl _⟩,⟨by (try simp only [jS]);(with_reducible repeat (first|apply Kd.bN|apply Kd.bQ|apply Kd.bn));exact Kd.bG bF.out (fun _ hk=>hk.2)⟩,⟨by (try simp only [jS]);(with_reducible repeat (first|apply Kd.bN|apply Kd.bQ|apply Kd.bn));exact Kd.bG mQ.out (fun _ hk=>hk.2)⟩,⟨by (try simp only [jS]);exact bk⟩,⟨bl⟩⟩
         case round =>
          clear H'
          (try clear c4);(try clear eA);(try clear mB);(try clear c8);(try clear iX);(try clear c10);(try clear lB);(try clear u_);(try clear c11);(try clear mz);(try clear sq);(try clear c13);(try clear c14);(try clear ku);(try clear z6);(try clear c15);(try clear kR);(try clear rH);(try clear c20);(try clear og);(try clear c21);(try clear tZ);(try clear Wu);(try clear c23);(try clear rI);(try clear Dw);(try clear Dz);(try clear yw);(try clear yx);(try clear Cl);(try clear aaf);(try clear rN);(try clear rO);(try clear yB);(try clear yC);(try clear Ct);(try clear aaM);(try clear rQ);(try clear rR);(try clear abB);(try clear Dw);(try clear Dz)
          obtain ⟨eP,ia,rfl,rfl,HA,gv,bF,al1,ag,HB⟩:=hrel
          cases gk with
          | zero=>exact absurd HA.out (by simp [akt.l2])
          | succ k4 =>
           have H:=HA.out
           clear HA
           simp only [akt.l2] at H
           by_cases c31:ia < (t106.length:Int)
           case neg =>
            rw [if_neg c31] at H
            have oh:decide (ia < (t106.length:Int))=false:=decide_eq_false c31
            (try simp only [jS] at oh)
            clear c31
            by_cases c37:eP=true
            case neg =>
             replace c37:=Bool.eq_false_iff.mpr c37
             subst c37
             have H1:(akt.l0 k4 l1 a2 kT (wrap64 (eJ+1)) af aa)=some r:=by rw [if_neg (show ¬ (false=true) by decide)] at H;exact H
             clear H
             have H:=H1
             clear H1
             have H':=k0 H
             clear H
             go_wp2
             (try simp only [← jS])
             first|go_roundg k4|(simp only [← nh];go_roundg k4)|(simp only [← jG];go_roundg k4)|(simp only [← mG];go_roundg k4)
             case measure=>have:=akl.out;have:=alc.out;have:=dg.out;have:=gv.out;omega
             case rel=>exact ⟨(wrap64 (eJ+1)),rs,(by first|exact H'|(rw [nh];exact H')|(rw [jG];exact H')|(rw [mG];exact H')),⟨by have:=akl.out;have:=alc.out;have:=dg.out;have:=gv.out;omega⟩,⟨by (try simp only [jS]);exact bk⟩,⟨bl⟩⟩
            subst c37
            have H1:(if aY=[] then none else some aY)=some r:=by rw [if_pos rfl] at H;exact H
            clear H
            have H:=H1
            clear H1
            have JR:aY ≠ []:=fun h_=>by rw [if_pos h_] at H;exact absurd H (by simp)
            rw [if_neg JR] at H
            obtain rfl:=Option.some.inj H
            have Uh:=k0 JR
            clear JR H
            go_wp2
            go_ret
            exact ⟨_,by first|rfl|(simp [bq,bt]<;>rfl)|(simp only [← mG];first|rfl|(simp [bq,bt]<;>rfl))|(simp [*,bq,bt]<;>rfl),fun h_=>absurd h_ Uh.out,by (with_reducible repeat (first|apply Kd.bN|apply Kd.bQ|apply Kd.bn));exact Kd.bG bF.out (fun _ hk=>trivial),bl⟩
           rw [if_pos c31] at H
           have oh:=decide_eq_true c31
           (try simp only [jS] at oh)
           clear c31
           replace H:=iS H;obtain ⟨c32,H⟩:=H
           have NA:=decide_eq_true c32
           clear c32
           replace H:=iS H;obtain ⟨c33,H⟩:=H
           have BF:=decide_eq_true c33
           (try simp only [jS] at BF)
           clear c33
           by_cases c34:eP=true
           case neg =>
            replace c34:=Bool.eq_false_iff.mpr c34
            subst c34
            have H1:(akt.l2 k4 l1 a2 aY false kT eJ t106 (t106.length:Int) (wrap64 (ia+1)) af aa)=some r:=by rw [if_neg (show ¬ (false=true) by decide)] at H;exact H
            clear H
            have H:=H1
            clear H1
            have H':=k0 H
            clear H
            have eG:0≤(ia:Int):=oD
            have ew:ia < (t106.length:Int):=oD
            obtain ⟨lQ,e109,akF⟩:=Kd.bH (Kd.bu al1.out).2.2 ia eG ew
            cases e109
            replace eG:=eq_true eG
            replace ew:=eq_true ew
            go_wp2
            first|go_roundg k4|(simp only [← nh];go_roundg k4)|(simp only [← jG];go_roundg k4)|(simp only [← mG];go_roundg k4)
            case measure=>have:=akl.out;have:=alc.out;have:=dg.out;have:=gv.out;omega
            case rel=>exact ⟨(false),(wrap64 (ia+1)),rs,rs,(by first|exact H'|(rw [nh];exact H')|(rw [jG];exact H')|(rw [mG];exact H')),⟨by have:=akl.out;have:=alc.out;have:=dg.out;have:=gv.out;omega⟩,⟨by (try simp only [jS]);(with_reducible repeat (first|apply Kd.bN|apply Kd.bQ|apply Kd.bn));exact bF.out⟩,⟨by (try simp only [jS]);(with_reducible repeat (first|apply Kd.bN|apply Kd.bQ|apply Kd.bn));exact al1.out⟩,⟨by (try simp only [jS]);exact bk⟩,⟨bl⟩⟩
           subst c34
           have H1:(if ia < (aY.length:Int) then (if (rd aY ia)=0 then (akt.l2 k4 l1 a2 aY true kT eJ t106 (t106.length:Int) (wrap64 (ia+1)) af aa) else (akt.l2 k4 l1 a2 aY (decide ((rd t106 ia) ≥ 0)) kT eJ t106 (t106.length:Int) (wrap64 (ia+1)) af aa)) else (none))=some r:=by rw [if_pos rfl] at H;exact H
           clear H
           have H:=H1
           clear H1
           replace H:=iS H;obtain ⟨c35,H⟩:=H
           have z_:=decide_eq_true c35
           (try simp only [jS] at z_)
           clear c35
           by_cases c36:(rd aY ia)=0
           case neg =>
            rw [if_neg c36] at H
            have Wz:((rd aY ia) == 0)=false:=beq_eq_false_iff_ne.mpr c36
            have WA:((rd aY ia) != 0)=true:=bne_iff_ne.mpr c36
            have H':=k0 H
            clear H
            have eG:0≤(ia:Int):=oD
            have ew:ia < (t106.length:Int):=oD
            obtain ⟨lQ,e109,akF⟩:=Kd.bH (Kd.bu al1.out).2.2 ia eG ew
            cases e109
            replace eG:=eq_true eG
            replace ew:=eq_true ew
            have jw:0≤(ia:Int):=oD
            have jx:ia < (aY.length:Int):=oD
            obtain ⟨akV,e110,kD⟩:=Kd.bH (Kd.bu bF.out).2.2 ia jw jx
            cases e110
            replace jw:=eq_true jw
            replace jx:=eq_true jx
            go_wp2
            first|go_roundg k4|(simp only [← nh];go_roundg k4)|(simp only [← jG];go_roundg k4)|(simp only [← mG];go_roundg k4)
            case measure=>have:=akl.out;have:=alc.out;have:=dg.out;have:=gv.out;omega
            case rel=>exact ⟨(decide ((rd t106 ia) ≥ 0)),(wrap64 (ia+1)),rs,rs,(by first|exact H'|(rw [nh];exact H')|(rw [jG];exact H')|(rw [mG];exact H')),⟨by have:=akl.out;have:=alc.out;have:=dg.out;have:=gv.out;omega⟩,⟨by (try simp only [jS]);(with_reducible repeat (first|apply Kd.bN|apply Kd.bQ|apply Kd.bn));exact bF.out⟩,⟨by (try simp only [jS]);(with_reducible repeat (first|apply Kd.bN|apply Kd.bQ|apply Kd.bn));exact al1.out⟩,⟨by (try simp only [jS]);exact bk⟩,⟨bl⟩⟩
           rw [if_pos c36] at H
           have Wz:((rd aY ia) == 0)=true:=beq_iff_eq.mpr c36
           have WA:((rd aY ia) != 0)=false:=bne_eq_false_iff_eq.mpr c36
           clear c36
           have H':=k0 H
           clear H
           have eG:0≤(ia:Int):=oD
           have ew:ia < (t106.length:Int):=oD
           obtain ⟨lQ,e109,akF⟩:=Kd.bH (Kd.bu al1.out).2.2 ia eG ew
           cases e109
           replace eG:=eq_true eG
           replace ew:=eq_true ew
           have jw:0≤(ia:Int):=oD
           have jx:ia < (aY.length:Int):=oD
           obtain ⟨akV,e110,kD⟩:=Kd.bH (Kd.bu bF.out).2.2 ia jw jx
           cases e110
           replace jw:=eq_true jw
           replace jx:=eq_true jx
           go_wp2
           first|go_roundg k4|(simp only [← nh];go_roundg k4)|(simp only [← jG];go_roundg k4)|(simp only [← mG];go_roundg k4)
           case measure=>have:=akl.out;have:=alc.out;have:=dg.out;have:=gv.out;omega
           case rel=>exact ⟨(true),(wrap64 (ia+1)),rs,rs,(by first|exact H'|(rw [nh];exact H')|(rw [jG];exact H')|(rw [mG];exact H')),⟨by have:=akl.out;have:=alc.out;have:=dg.out;have:=gv.out;omega⟩,⟨by (try simp only [jS]);(with_reducible repeat (first|apply Kd.bN|apply Kd.bQ|apply Kd.bn));exact bF.out⟩,⟨by (try simp only [jS]);(with_reducible repeat (first|apply Kd.bN|apply Kd.bQ|apply Kd.bn));exact al1.out⟩,⟨by (try simp only [jS]);exact bk⟩,⟨bl⟩⟩
        rw [if_pos c20] at H
        have og:=decide_eq_true c20
        (try simp only [jS] at og)
        clear c20
        replace H:=iS H;obtain ⟨c21,H⟩:=H
        have tZ:=eq_true c21
        have Wu:=decide_eq_true c21
        clear c21
        obtain ⟨i_,jG⟩:∃ j_:Int,(shr .i64 eJ mM)=j_:=⟨_,rfl⟩
        replace H:(if mM < (aY.length:Int) then (akt.l1 k3 l1 a2 eJ (aY.set (mM:Int).toNat (Go.bits .and .i64 (i_) 1)) kT eJ (eW.length:Int) (wrap64 (mM+1)) af aa) else (none))=some r:=by first|(rw [jG] at H;exact H)|(simp only [jG] at H ⊢;exact H)
        have ahD:(eJ / 2 ^ min mM.toNat 64)=i_:=jG
        have ahF:mM≤64→(eJ / 2 ^ mM.toNat)=i_:=Se jG
        replace H:=iS H;obtain ⟨c23,H⟩:=H
        have rI:=decide_eq_true c23
        (try simp only [jS] at rI)
        clear c23
        obtain ⟨jg,fy⟩:∃ y_:List Int,y_=(aY.set (mM:Int).toNat (Go.bits .and .i64 (i_) 1)):=⟨_,rfl⟩
        replace H:(akt.l1 k3 l1 a2 eJ jg kT eJ (eW.length:Int) (wrap64 (mM+1)) af aa)=some r:=by first|(rw [fy];with_reducible exact H)|(have ay:=(Option.bind_some _ _).symm.trans H;rw [fy];with_reducible exact ay)|(have ay:=(Option.bind_some _ _).symm.trans H;with_reducible exact ay)|with_reducible exact H|(rw [fy];exact H)|exact H
        have lN:=k0 fy
        clear fy
        have H':=k0 H
        clear H
        have Dw:0≤(mM:Int):=oD
        have Dz:(mM:Int) < ((aY.length:Int):Int):=oD
        obtain ⟨IY,amv,Al,Oo,YO,agt,Ml⟩:=Kd.akT bF.out (by omega)
        (first|cases Al|(injection Al with bf dn dm;(first|subst bf|(injection bf with bf;subst bf));subst dm;clear dn))
        have TL:=k0 Oo
        have afd:=k0 Ml
        clear Oo YO Ml
        obtain ⟨abB,aha⟩:=Kd.jD 0 bF.out (mM:Int) Dw Dz
        replace Dw:=eq_true Dw
        replace Dz:=eq_true Dz
        have pY:=Kd.kP bF.out (mM:Int) (Go.bits .and .i64 (i_) 1)
        go_wp2_with (first|((with_reducible refine lf (t:=2) (p:=42) rfl ?_);refine lq (t:=2) (p:=42) (v:=?aeF) (w1:=(wr.setCell ⟨IY,(mM:Int).toNat,none⟩ (.int .i64 (Go.bits .and .i64 (i_) 1)))) ?hg ?ho ?hn ?hr ?_;(case ho=>rfl);(case hg=>rfl);(case hn=>rfl);(case hr=>first|(go_simp;done)|(go_simp;rfl));intro uB hw;have hg:wr.grownBy uB (some IY):=(by rw [hw];exact pY.2);have dZ:Kd.R (Kd.int .i64) 2 uB w.heap.size (fun _=>True) (.slice (some ⟨IY,0,none⟩) aY.length qP) jg:=(by rw [hw,lN.out];exact pY.1);clear pY;replace ag:=k0 (jl (g:=ai) (o:=sO af aq aa ak 31) bk hg (Kd.iD bF.out ag.out (by decide)));replace bF:=k0 (dZ);replace HB:=k0 ((by rw [hw];exact dM (HB.out) TL.out:Below w.heap.size w uB));clear hg hw dZ))
        (try simp only [← jS])
        first|go_roundg k3|(simp only [← nh];go_roundg k3)|(simp only [← jG];go_roundg k3)|(simp only [← mG];go_roundg k3)
        case measure=>have:=akl.out;have:=alc.out;have:=dg.out;omega
        case rel=>exact ⟨(jg),(wrap64 (mM+1)),rs,(by first|exact H'|(rw [nh];exact H')|(rw [jG];exact H')|(rw [mG];exact H')),⟨by have:=akl.out;have:=alc.out;have:=dg.out;omega⟩,⟨by (try simp only [jS]);(with_reducible repeat (first|apply Kd.bN|apply Kd.bQ|apply Kd.bn));exact bF.out⟩,⟨by (try simp only [jS]);exact bk⟩,⟨bl⟩⟩
     subst c13
     have H1:(akt.l0 vM l1 a2 kT (wrap64 (eJ+1)) af aa)=some r:=by rw [if_pos rfl] at H;exact H
     clear H
     have H:=H1
     clear H1
     have H':=k0 H
     clear H
     go_wp2
     first|go_roundg vM|(simp only [← nh];go_roundg vM)|(simp only [← jG];go_roundg vM)|(simp only [← mG];go_roundg vM)
     case measure=>have:=akl.out;have:=alc.out;omega
     case rel=>exact ⟨(wrap64 (eJ+1)),rs,(by first|exact H'|(rw [nh];exact H')|(rw [jG];exact H')|(rw [mG];exact H')),⟨by have:=akl.out;have:=alc.out;omega⟩,⟨bk⟩,⟨bl⟩⟩
end Go.Proofs.Ytoebojnhchocaaa.C
/- Set with little white space, by a program. -/
