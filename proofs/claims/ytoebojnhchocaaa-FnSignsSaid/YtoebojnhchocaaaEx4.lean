/- The functions that one law reaches, each as a Lean function, and that Go's call comes to what it says. Condition of each: that the Lean function answers (is not none). -/
import Derived.Test.YtoebojnhchocaaaEx0
import Derived.Test.YtoebojnhchocaaaEx1
namespace Go.Proofs.Ytoebojnhchocaaa.E
open Go.RowKit Go.Proofs.bY.apf Go.Proofs.bY.ko Go.Proofs.bY.kN
attribute [local go_sem] max2_int min2_int max_two min_two max_three min_three max_four min_four   -- for this text's walks alone
set_option linter.unusedVariables false
set_option linter.unusedSimpArgs false
set_option maxHeartbeats 8000000
set_option maxRecDepth 100000
/-! ### F95: function 95 -/
def nH.l0 : Nat → List Int → List Int → Int → Int → Option (Bool)
 | 0,_,_,_,_=>none
 | k+1,x0,x1,oz,jP=>if jP < oz then (if 0≤jP then (if jP < (x0.length:Int) then (if jP < (x1.length:Int) then (if (rd x0 jP)=(rd x1 jP) then (nH.l0 k x0 x1 oz (wrap64 (jP+1))) else (some false)) else (none)) else (none)) else (none)) else (some true)
def nH.f (k:Nat) (l0:List Int) (l1:List Int):Option (Bool):=if (l0.length:Int)=(l1.length:Int) then (nH.l0 k l0 l1 (l0.length:Int) 0) else (some false)
theorem nH.calls (k : Nat) (A0 : Option Addr) (c0 : Nat) (l0 : List Int) (A1 : Option Addr) (c1 : Nat) (l1 : List Int) (r : Bool) (w : World) (cY : Kd.C (Kd.int .i64) w A0 l0.length l0) (hc0 : l0.length ≤ c0) (fY : Kd.C (Kd.int .i64) w A1 l1.length l1) (gi : l1.length ≤ c1) (h : nH.f k l0 l1 = some r) :
  Calls Try.prog 95 #[.slice A0 l0.length c0,.slice A1 l1.length c1] w fun e w'=>e=.returned (.bool r)∧iR w w':=by
 have ek:=k0 cY
 have jx:=k0 hc0
 clear cY hc0
 have gq:=k0 fY
 have lD:=k0 gi
 clear fY gi
 have H:(if (l0.length:Int)=(l1.length:Int) then (nH.l0 k l0 l1 (l0.length:Int) 0) else (some false))=some r:=h
 clear h
 by_cases c3:(l0.length:Int)=(l1.length:Int)
 case neg =>
  rw [if_neg c3] at H
  have jd:((l0.length:Int) == (l1.length:Int))=false:=beq_eq_false_iff_ne.mpr c3
  have oc:((l0.length:Int) != (l1.length:Int))=true:=bne_iff_ne.mpr c3
  have DU:(l0.length == l1.length)=false:=by first|simpa using c3|(simp at c3 ⊢;omega)
  obtain rfl:=Option.some.inj H
  go_enter Try.func95,Try.ntmps95
  go_wp2
  repeat (go_quiet (fail);try go_wp2)
  go_ret
  exact ⟨rs,dW⟩
 rw [if_pos c3] at H
 have jd:((l0.length:Int) == (l1.length:Int))=true:=beq_iff_eq.mpr c3
 have oc:((l0.length:Int) != (l1.length:Int))=false:=bne_eq_false_iff_eq.mpr c3
 have DU:(l0.length == l1.length)=true:=by first|simpa using c3|(simp at c3 ⊢;omega)
 clear c3
 have H':=k0 H
 clear H
 go_enter Try.func95,Try.ntmps95
 go_wp2
 repeat (go_quiet (fail);try go_wp2)
 go_loopg [13] k (fun kq xC w'=>∃ (c_:Int),xC=.int .i64 c_∧aj (nH.l0 kq l0 l1 (l0.length:Int) c_=some r)∧aj (kq≤k)∧iR w w')
 case atStart=>exact ⟨(0),rs,H',⟨Nat.le_refl _⟩,dW⟩
 case round =>
  clear H'
  obtain ⟨c_,rfl,HA,bx,⟨m1,rfl⟩⟩:=hrel
  cases gk with
  | zero=>exact absurd HA.z (by simp [nH.l0])
  | succ k1 =>
   have H:=HA.z
   clear HA
   simp only [nH.l0] at H
   by_cases c4:c_ < (l0.length:Int)
   case neg =>
    rw [if_neg c4] at H
    have fX:decide (c_ < (l0.length:Int))=false:=decide_eq_false c4
    clear c4
    obtain rfl:=Option.some.inj H
    go_wp2
    repeat (go_quiet (fail);try go_wp2)
    go_ret
    exact ⟨rs,dW⟩
   rw [if_pos c4] at H
   have fX:=decide_eq_true c4
   clear c4
   replace H:=iS H;obtain ⟨c5,H⟩:=H
   have jt:=decide_eq_true c5
   clear c5
   replace H:=iS H;obtain ⟨c6,H⟩:=H
   have kG:=decide_eq_true c6
   clear c6
   replace H:=iS H;obtain ⟨c7,H⟩:=H
   have oO:=decide_eq_true c7
   clear c7
   by_cases c8:(rd l0 c_)=(rd l1 c_)
   case neg =>
    rw [if_neg c8] at H
    have kH:((rd l0 c_) == (rd l1 c_))=false:=beq_eq_false_iff_ne.mpr c8
    have qL:((rd l0 c_) != (rd l1 c_))=true:=bne_iff_ne.mpr c8
    obtain rfl:=Option.some.inj H
    have apa:0≤(c_:Int):=oD
    have apb:c_ < (l0.length:Int):=oD
    obtain ⟨mj,e101,lp⟩:=Kd.cN ek.z c_ apa apb
    cases e101
    replace apa:=eq_true apa
    replace apb:=eq_true apb
    have dF:0≤(c_:Int):=oD
    have dG:c_ < (l1.length:Int):=oD
    obtain ⟨nh,e102,gO⟩:=Kd.cN gq.z c_ dF dG
    cases e102
    replace dF:=eq_true dF
    replace dG:=eq_true dG
    go_wp2
    repeat (go_quiet (fail);try go_wp2)
    go_ret
    exact ⟨rs,dW⟩
   rw [if_pos c8] at H
   have kH:((rd l0 c_) == (rd l1 c_))=true:=beq_iff_eq.mpr c8
   have qL:((rd l0 c_) != (rd l1 c_))=false:=bne_eq_false_iff_eq.mpr c8
   clear c8
   have H':=k0 H
   clear H
   have apa:0≤(c_:Int):=oD
   have apb:c_ < (l0.length:Int):=oD
   obtain ⟨mj,e101,lp⟩:=Kd.cN ek.z c_ apa apb
   cases e101
   replace apa:=eq_true apa
   replace apb:=eq_true apb
   have dF:0≤(c_:Int):=oD
   have dG:c_ < (l1.length:Int):=oD
   obtain ⟨nh,e102,gO⟩:=Kd.cN gq.z c_ dF dG
   cases e102
   replace dF:=eq_true dF
   replace dG:=eq_true dG
   go_wp2
   repeat (go_quiet (fail);try go_wp2)
   go_roundg k1
   case measure=>have:=bx.z;omega
   case rel=>exact ⟨(wrap64 (c_+1)),rs,H',⟨by have:=bx.z;omega⟩,dW⟩
/-! ### F218: function 218 -/
def sP.f (a0:Int):Option (Bool):=(ir.f a0 (-1000000000000000) 1000000000000000).bind fun t101=>(some t101)
theorem sP.calls (a0 : Int) (r : Bool) (w : World) (h : sP.f a0 = some r) :
  Calls Try.prog 218 #[.int .i64 a0] w fun e w'=>e=.returned (.bool r)∧iR w w':=by
 have H:((ir.f a0 (-1000000000000000) 1000000000000000).bind fun t101=>(some t101))=some r:=h
 clear h
 replace H:=Option.bind_eq_some_iff.mp H
 obtain ⟨t101,fI,H⟩:=H
 replace H:(some t101)=some r:=H
 have A2:=k0 fI
 clear fI
 obtain rfl:=Option.some.inj H
 go_enter Try.func218,Try.ntmps218
 go_wp2_with (first|((with_reducible refine bg (f:=194) rfl ?_);refine gC (some 4) Try.func194 #[.int .i64 a0,.int .i64 (-1000000000000000),.int .i64 1000000000000000] ?_;(with_reducible refine (ir.calls a0 (-1000000000000000) 1000000000000000 t101 _ A2.z).mono ?_);rintro e w' ⟨rfl,⟨nd,rfl⟩⟩;refine ⟨_,rfl,?_⟩))
 go_ret
 exact ⟨rs,dW⟩
/-! ### F217: function 217 -/
def lT.l0 : Nat → List Int → List Int → Int → Int → Option (Bool)
 | 0,_,_,_,_=>none
 | k+1,x0,x5,x6,x7=>if x7 < x6 then (if 0≤x7 then (if x7 < (x5.length:Int) then ((sP.f (rd x5 x7)).bind fun t102=>(if t102=true then (lT.l0 k x0 x5 x6 (wrap64 (x7+1))) else (some false))) else (none)) else (none)) else (if (x0.length:Int)≤40 then (if (x0.length:Int)=0 then (some true) else (if 0≤(wrap64 ((x0.length:Int) - 1)) then (if (wrap64 ((x0.length:Int) - 1)) < (x0.length:Int) then (some ((rd x0 (wrap64 ((x0.length:Int) - 1))) != 0)) else (none)) else (none))) else (some false))
def lT.f (k:Nat) (l0:List Int):Option (Bool):=lT.l0 k l0 l0 (l0.length:Int) 0
theorem lT.calls (k : Nat) (A0 : Option Addr) (c0 : Nat) (l0 : List Int) (r : Bool) (w : World) (cY : Kd.C (Kd.int .i64) w A0 l0.length l0) (hc0 : l0.length ≤ c0) (h : lT.f k l0 = some r) :
  Calls Try.prog 217 #[.slice A0 l0.length c0] w fun e w'=>e=.returned (.bool r)∧iR w w':=by
 have ek:=k0 cY
 have jx:=k0 hc0
 clear cY hc0
 have H:(lT.l0 k l0 l0 (l0.length:Int) 0)=some r:=h
 clear h
 have H':=k0 H
 clear H
 go_enter Try.func217,Try.ntmps217
 go_wp2
 go_loopg [7] k (fun kq v7 w'=>∃ (cy:Int),v7=.int .i64 cy∧aj (lT.l0 kq l0 l0 (l0.length:Int) cy=some r)∧aj (kq≤k)∧iR w w')
 case atStart=>exact ⟨(0),rs,H',⟨Nat.le_refl _⟩,dW⟩
 case round =>
  clear H'
  obtain ⟨cy,rfl,HA,bx,⟨m1,rfl⟩⟩:=hrel
  cases gk with
  | zero=>exact absurd HA.z (by simp [lT.l0])
  | succ k1 =>
   have H:=HA.z
   clear HA
   simp only [lT.l0] at H
   by_cases c2:cy < (l0.length:Int)
   case neg =>
    rw [if_neg c2] at H
    have xb:decide (cy < (l0.length:Int))=false:=decide_eq_false c2
    clear c2
    by_cases c7:(l0.length:Int)≤40
    case neg =>
     rw [if_neg c7] at H
     have oO:decide ((l0.length:Int)≤40)=false:=decide_eq_false c7
     have uv:decide (l0.length≤40)=false:=decide_eq_false (by omega)
     clear c7
     obtain rfl:=Option.some.inj H
     go_wp2
     go_ret
     exact ⟨rs,dW⟩
    rw [if_pos c7] at H
    have oO:=decide_eq_true c7
    have uv:decide (l0.length≤40)=true:=decide_eq_true (by omega)
    clear c7
    by_cases c8:(l0.length:Int)=0
    case neg =>
     rw [if_neg c8] at H
     have kH:((l0.length:Int) == 0)=false:=beq_eq_false_iff_ne.mpr c8
     have qL:((l0.length:Int) != 0)=true:=bne_iff_ne.mpr c8
     have ahj:¬ (l0=[]):=fun h_=>c8 (by rw [h_];rfl)
     obtain ⟨nt,uI⟩:∃ j_:Int,(wrap64 ((l0.length:Int) - 1))=j_:=⟨_,rfl⟩
     replace H:(if 0≤(nt) then (if (nt) < (l0.length:Int) then (some ((rd l0 (nt)) != 0)) else (none)) else (none))=some r:=by first|(rw [uI] at H;exact H)|(simp only [uI] at H ⊢;exact H)
     have abV:(IntKind.i64.wrap ((l0.length:Int) - 1))=nt:=(cm _).trans uI
     replace H:=iS H;obtain ⟨c10,H⟩:=H
     have qI:=decide_eq_true c10
     clear c10
     replace H:=iS H;obtain ⟨c11,H⟩:=H
     have ku:=decide_eq_true c11
     clear c11
     obtain rfl:=Option.some.inj H
     have eU:0≤((nt):Int):=oD
     have eV:(nt) < (l0.length:Int):=oD
     obtain ⟨lJ,e103,fF⟩:=Kd.cN ek.z (nt) eU eV
     cases e103
     replace eU:=eq_true eU
     replace eV:=eq_true eV
     go_wp2
     go_ret
     exact ⟨by first|rfl|(simp;done)|(simp only [← uI]<;>(first|rfl|simp))|(simp [*];done),dW⟩
    rw [if_pos c8] at H
    have kH:((l0.length:Int) == 0)=true:=beq_iff_eq.mpr c8
    have qL:((l0.length:Int) != 0)=false:=bne_eq_false_iff_eq.mpr c8
    clear c8
    obtain rfl:=Option.some.inj H
    go_wp2
    go_ret
    exact ⟨rs,dW⟩
   rw [if_pos c2] at H
   have xb:=decide_eq_true c2
   clear c2
   replace H:=iS H;obtain ⟨c3,H⟩:=H
   have jd:=decide_eq_true c3
   clear c3
   replace H:=iS H;obtain ⟨c4,H⟩:=H
   have fX:=decide_eq_true c4
   clear c4
   replace H:=Option.bind_eq_some_iff.mp H
   obtain ⟨t102,kC,H⟩:=H
   replace H:(if t102=true then (lT.l0 k1 l0 l0 (l0.length:Int) (wrap64 (cy+1))) else (some false))=some r:=H
   have A5:=k0 kC
   clear kC
   by_cases c6:t102=true
   case neg =>
    replace c6:=Bool.eq_false_iff.mpr c6
    subst c6
    have H1:(some false)=some r:=by rw [if_neg (show ¬ (false=true) by decide)] at H;exact H
    clear H
    have H:=H1
    clear H1
    obtain rfl:=Option.some.inj H
    have apa:0≤(cy:Int):=oD
    have apb:cy < (l0.length:Int):=oD
    obtain ⟨mj,e101,lp⟩:=Kd.cN ek.z cy apa apb
    cases e101
    replace apa:=eq_true apa
    replace apb:=eq_true apb
    go_wp2_with (first|((with_reducible refine bg (f:=218) rfl ?_);refine gC (some 12) Try.func218 #[.int .i64 (rd l0 cy)] ?_;(with_reducible refine (sP.calls (rd l0 cy) false _ A5.z).mono ?_);rintro e w' ⟨rfl,⟨nd,rfl⟩⟩;refine ⟨_,rfl,?_⟩))
    go_ret
    exact ⟨rs,dW⟩
   subst c6
   have H1:(lT.l0 k1 l0 l0 (l0.length:Int) (wrap64 (cy+1)))=some r:=by rw [if_pos rfl] at H;exact H
   clear H
   have H:=H1
   clear H1
   have H':=k0 H
   clear H
   have apa:0≤(cy:Int):=oD
   have apb:cy < (l0.length:Int):=oD
   obtain ⟨mj,e101,lp⟩:=Kd.cN ek.z cy apa apb
   cases e101
   replace apa:=eq_true apa
   replace apb:=eq_true apb
   go_wp2_with (first|((with_reducible refine bg (f:=218) rfl ?_);refine gC (some 12) Try.func218 #[.int .i64 (rd l0 cy)] ?_;(with_reducible refine (sP.calls (rd l0 cy) true _ A5.z).mono ?_);rintro e w' ⟨rfl,⟨nd,rfl⟩⟩;refine ⟨_,rfl,?_⟩))
   first|go_roundg k1|(simp only [← uI];go_roundg k1)
   case measure=>have:=bx.z;omega
   case rel=>exact ⟨(wrap64 (cy+1)),rs,(by first|exact H'|(rw [uI];exact H')),⟨by have:=bx.z;omega⟩,dW⟩
/-! ### F164: function 164 -/
theorem Xb (k : Nat) (A : Option Addr) (c : Nat) (l : List Int) (r : Bool) (w : World) (hr : Kd.C (Kd.int .i64) w A l.length l) (hc : l.length ≤ c) (h : lT.f k l = some r) :
  Calls Try.prog 216 #[.slice A l.length c] w fun e w'=>e=.returned (.bool (!r))∧Below w.heap.size w w':=by
 have HW:=fun W (hw:Below w.heap.size w W)=>lT.calls k A c l r W (Kd.ao4 hr hw) hc h
 have VZ:=k0 HW
 clear HW hr h
 go_enter Try.func216,Try.ntmps216
 go_wp2_with (go_at_call 217;refine (VZ.z _ (by repeat (first|exact Below.refl _ _|apply a_|apply bf|apply aZ))).mono ?_;rintro e w_ ⟨rfl,⟨nd_,rfl⟩⟩)
 go_ret
 exact ⟨by first|rfl|(simp;done),(by repeat (first|exact Below.refl _ _|apply a_|apply bf|apply aZ))⟩
theorem Xa (p : List Int → Option Bool) (A : Option Addr) (c : Nat) (l : List (List Int)) (R : Int) (w : World) (hr : Kd.C (Kd.slice 2 (Kd.int .i64)) w A l.length l)
 (hp:∀ (A':Option Addr) (c':Nat) (x:List Int) (b:Bool) w1,Below w.heap.size w w1→Kd.C (Kd.int .i64) w1 A' x.length x→x.length≤c'→p x=some b→Calls Try.prog 216 #[.slice A' x.length c'] w1 fun e w'=>e=.returned (.bool b)∧Below w1.heap.size w1 w') (h:tj p l 0=some R) :
 Calls Try.prog 220 #[.slice A l.length c,.func (.func 216) #[] #[]] w fun e w'=>e=.returned (.int .i64 R)∧Below w.heap.size w w':=by
 have HR:=k0 hr
 have HP:=k0 hp
 have H':=k0 h
 have hlen:l.length≤9223372036854775807:=hr.2.1
 clear hr hp h
 go_enter Try.func220,Try.ntmps220
 go_wp2_with fail
 go_loopw [8] (fun i wr=>∃ k:Nat,k≤l.length∧i=.int .i64 k∧aj (tj p (l.drop k) k=some R)∧aj (Below w.heap.size w wr)) (fun i _=>l.length - (intOf i).toNat)
 case atStart=>exact ⟨0,Nat.zero_le _,rfl,⟨by simpa using H'.out⟩,⟨Below.refl _ _⟩⟩
 case round =>
  clear H'
  obtain ⟨k,hk,rfl,HI,HB⟩:=hrel
  by_cases hlt:k < l.length
  case neg =>
   have hI:=HI.z
   rw [List.drop_of_length_le (by omega)] at hI
   simp only [tj,Option.some.injEq] at hI
   subst hI
   have hb:decide (k < l.length)=false:=by simp;omega
   go_wp2
   go_ret
   exact ⟨rfl,HB.z⟩
  have hI:=HI.z
  rw [List.drop_eq_getElem_cons hlt] at hI
  simp only [tj] at hI
  obtain ⟨b,hb,hI⟩:=Option.bind_eq_some_iff.mp hI
  obtain ⟨ad,A',c',e,hcell,hlc,hC⟩:=fW (Kd.ao4 HR.z HB.z) (k:Int) (by omega) (by omega)
  cases e
  rw [Int.toNat_natCast] at hcell
  have hx:av l (k:Int)=l[k]:=by simp [av,List.getD_eq_getElem?_getD,hlt]
  rw [hx] at hcell hlc hC
  have De:=k0 hC
  have Di:=k0 hlc
  have Dc:=k0 hb
  clear hC hlc hb hx
  cases b with
  | true =>
   simp only [if_true,Option.some.injEq] at hI
   subst hI
   go_wp2_with (go_at_call 216;refine (HP.out _ _ _ true _ HB.z De.z Di.z Dc.z).mono ?_;rintro e w' ⟨rfl,gN⟩;have fB:=k0 (aH HB.z gN);clear gN)
   go_ret
   exact ⟨rfl,fB.z⟩
  | false =>
   simp only [Bool.false_eq_true,if_false] at hI
   have HD:=k0 hI
   clear hI
   go_wp2_with (go_at_call 216;refine (HP.out _ _ _ false _ HB.z De.z Di.z Dc.z).mono ?_;rintro e w' ⟨rfl,gN⟩;have fB:=k0 (aH HB.z gN);clear gN)
   go_roundw
   case rel=>exact ⟨k+1,by omega,by go_num,HD,fB⟩
   case measure=>simp [intOf];omega
def rO.f (k:Nat) (l0:List (List Int)):Option Bool:=(tj (fun x=>(lT.f k x).map not) l0 0).bind fun i=>some (!(decide (0≤i)))
theorem rO.calls (k : Nat) (A0 : Option Addr) (c0 : Nat) (l0 : List (List Int)) (r : Bool) (w : World) (cY : Kd.C (Kd.slice 2 (Kd.int .i64)) w A0 l0.length l0) (hc0 : l0.length ≤ c0) (h : rO.f k l0 = some r) :
  Calls Try.prog 164 #[.slice A0 l0.length c0] w fun e w'=>e=.returned (.bool r)∧Below w.heap.size w w':=by
 unfold rO.f at h
 obtain ⟨i,hi,h⟩:=Option.bind_eq_some_iff.mp h
 obtain rfl:=Option.some.inj h
 have HC:=fun W (hw:Below w.heap.size w W)=>Xa (fun x=>(lT.f k x).map not) A0 c0 l0 i W (Kd.ao4 cY hw) (fun A' c' x b w1 hw1 hC hc hx=>by
  obtain ⟨b',hb',rfl⟩:=Option.map_eq_some_iff.1 hx
  exact Xb k A' c' x b' w1 hC hc hb') hi
 have wT:=k0 HC
 have HD:∀ W,Below w.heap.size w W→Calls Try.prog 180 #[.slice A0 l0.length c0,.func (.func 216) #[] #[]] W fun e w'=>e=.returned (.bool (decide (0≤i)))∧Below W.heap.size W w':=by
  intro W hw
  have VL:=k0 (wT.z W hw)
  clear HC wT cY hi h hw
  go_enter Try.func180,Try.ntmps180
  go_wp2_with (go_at_call 220;refine VL.z.mono ?_;rintro e w' ⟨rfl,gN⟩;have fB:=k0 gN;clear gN)
  go_ret
  exact ⟨by first|rfl|(simp;done),fB.z⟩
 have VM:=k0 HD
 clear HC wT HD cY hi h
 go_enter Try.func164,Try.ntmps164
 go_wp2_with (go_at_call 180;refine (VM.out _ (by repeat (first|exact Below.refl _ _|apply a_|apply bf|apply aZ))).mono ?_;rintro e w2 ⟨rfl,gN⟩;have fB:=k0 (aH (by repeat (first|exact Below.refl _ _|apply a_|apply bf|apply aZ)) gN:Below w.heap.size w w2);clear gN)
 go_ret
 exact ⟨by first|rfl|(simp;done),(by repeat (first|exact fB.z|apply a_|apply bf|apply aZ))⟩
/-! ### F165: function 165 -/
def l8.f (a0:Int):Option (Int):=some (mx a0 (wrap64 (-a0)))
theorem l8.calls (a0 : Int) (r : Int) (w : World) (h : l8.f a0 = some r) :
  Calls Try.prog 165 #[.int .i64 a0] w fun e w'=>e=.returned (.int .i64 r)∧Below w.heap.size w w':=by
 have HB:=k0 (Below.refl w.heap.size w)
 have H:(some (mx a0 (wrap64 (-a0))))=some r:=h
 clear h
 obtain ⟨SW,G0⟩:∃ j_:Int,(mx a0 (wrap64 (-a0)))=j_:=⟨_,rfl⟩
 replace H:(some SW)=some r:=by first|(rw [G0] at H;exact H)|(simp only [G0] at H ⊢;exact H)
 have al':(if a0 < (wrap64 (-a0)) then (wrap64 (-a0)) else a0)=SW:=G0
 obtain rfl:=Option.some.inj H
 go_enter Try.func165,Try.ntmps165
 go_wp2
 go_ret
 exact ⟨by first|rfl|(simp [je,jf]<;>rfl)|(simp only [← G0];first|rfl|(simp [je,jf]<;>rfl))|(simp [*,je,jf]<;>rfl),bl⟩
/-! ### F166: function 166 -/
def pX.f (l0:List Int) (a1:Int):Option (Int):=if a1 < (l0.length:Int) then (if 0≤a1 then (some (rd l0 a1)) else (none)) else (some 0)
theorem pX.calls (A0 : Option Addr) (c0 : Nat) (l0 : List Int) (a1 : Int) (r : Int) (w : World) (cY : Kd.C (Kd.int .i64) w A0 l0.length l0) (hc0 : l0.length ≤ c0) (h : pX.f l0 a1 = some r) :
  Calls Try.prog 166 #[.slice A0 l0.length c0,.int .i64 a1] w fun e w'=>e=.returned (.int .i64 r)∧iR w w':=by
 have ek:=k0 cY
 have jx:=k0 hc0
 clear cY hc0
 have H:(if a1 < (l0.length:Int) then (if 0≤a1 then (some (rd l0 a1)) else (none)) else (some 0))=some r:=h
 clear h
 by_cases c3:a1 < (l0.length:Int)
 case neg =>
  rw [if_neg c3] at H
  have jd:decide (a1 < (l0.length:Int))=false:=decide_eq_false c3
  clear c3
  obtain rfl:=Option.some.inj H
  go_enter Try.func166,Try.ntmps166
  go_wp2
  go_ret
  exact ⟨rs,dW⟩
 rw [if_pos c3] at H
 have jd:=decide_eq_true c3
 clear c3
 replace H:=iS H;obtain ⟨c4,H⟩:=H
 have fX:=decide_eq_true c4
 clear c4
 obtain rfl:=Option.some.inj H
 have apa:0≤(a1:Int):=oD
 have apb:a1 < (l0.length:Int):=oD
 obtain ⟨mj,e101,lp⟩:=Kd.cN ek.z a1 apa apb
 cases e101
 replace apa:=eq_true apa
 replace apb:=eq_true apb
 go_enter Try.func166,Try.ntmps166
 go_wp2
 go_ret
 exact ⟨rs,dW⟩
/-! ### F167: function 167 -/
def lC.j0 : Nat → Int → Int → Int → Bool → Option (Int × Bool)
 | 0,_,_,_,_=>none
 | k+1,x0,x1,x2,jP=>if jP=true then (some (x0,true)) else ((l8.f x1).bind fun t101=>((l8.f x2).bind fun t102=>(if t102=0 then (none) else (if t101 > (wrap64 ((1000000000000000:Int) / t102)) then (some (0,false)) else ((sP.f (wrap64 (x0+(wrap64 (x1 * x2))))).bind fun t103=>(some (wrap64 (x0+(wrap64 (x1 * x2))),t103)))))))
def lC.f (k:Nat) (a0:Int) (a1:Int) (a2:Int):Option (Int × Bool):=if a1=0 then (lC.j0 k a0 a1 a2 true) else (lC.j0 k a0 a1 a2 (a2 == 0))
theorem lC.calls (k : Nat) (a0 : Int) (a1 : Int) (a2 : Int) (r1 : Int) (r2 : Bool) (w : World) (h : lC.f k a0 a1 a2 = some (r1, r2)) :
  Calls Try.prog 167 #[.int .i64 a0,.int .i64 a1,.int .i64 a2] w fun e w'=>e=.returned (.tuple #[.int .i64 r1,.bool r2])∧Below w.heap.size w w':=by
 have HB:=k0 (Below.refl w.heap.size w)
 have H:(if a1=0 then (lC.j0 k a0 a1 a2 true) else (lC.j0 k a0 a1 a2 (a2 == 0)))=some (r1,r2):=h
 clear h
 have I9:=k0 H
 clear H
 go_enter Try.func167,Try.ntmps167
 go_upto_region 1 with (fail)
 go_cut [13] (fun xC wc=>∃ (kq:Nat) (Ip:Bool),xC=.bool Ip∧aj (lC.j0 kq a0 a1 a2 Ip=some (r1,r2))∧aj (kq≤k)∧aj (Below w.heap.size w wc))
 case first =>
  have H:=I9.z
  clear I9
  by_cases c5:a1=0
  case neg =>
   rw [if_neg c5] at H
   have jt:(a1 == 0)=false:=beq_eq_false_iff_ne.mpr c5
   have ym:(a1 != 0)=true:=bne_iff_ne.mpr c5
   (first|rw [jt]|(simp only [cm,cO];rw [jt])|skip)
   have H':=k0 H
   clear H
   go_wp2
   go_meet
   case rel=>exact ⟨_,((a2 == 0)),rs,H',⟨by first|omega|exact Nat.le_refl _⟩,⟨bl⟩⟩
  rw [if_pos c5] at H
  have jt:(a1 == 0)=true:=beq_iff_eq.mpr c5
  have ym:(a1 != 0)=false:=bne_eq_false_iff_eq.mpr c5
  clear c5
  (first|rw [jt]|(simp only [cm,cO];rw [jt])|skip)
  have H':=k0 H
  clear H
  go_wp2
  go_meet
  case rel=>exact ⟨_,(true),rs,H',⟨by first|omega|exact Nat.le_refl _⟩,⟨bl⟩⟩
 case rest =>
  clear I9
  obtain ⟨kq,Ip,rfl,HA,HJ3,HB⟩:=hcut
  cases kq with
  | zero=>exact absurd HA.z (by simp [lC.j0])
  | succ kj3 =>
   have H:=HA.z
   clear HA
   simp only [lC.j0] at H
   by_cases c6:Ip=true
   case neg =>
    replace c6:=Bool.eq_false_iff.mpr c6
    subst c6
    have H1:((l8.f a1).bind fun t101=>((l8.f a2).bind fun t102=>(if t102=0 then (none) else (if t101 > (wrap64 ((1000000000000000:Int) / t102)) then (some (0,false)) else ((sP.f (wrap64 (a0+(wrap64 (a1 * a2))))).bind fun t103=>(some (wrap64 (a0+(wrap64 (a1 * a2))),t103)))))))=some (r1,r2):=by rw [if_neg (show ¬ (false=true) by decide)] at H;exact H
    clear H
    have H:=H1
    clear H1
    replace H:=Option.bind_eq_some_iff.mp H
    obtain ⟨t101,nE,H⟩:=H
    replace H:((l8.f a2).bind fun t102=>(if t102=0 then (none) else (if t101 > (wrap64 ((1000000000000000:Int) / t102)) then (some (0,false)) else ((sP.f (wrap64 (a0+(wrap64 (a1 * a2))))).bind fun t103=>(some (wrap64 (a0+(wrap64 (a1 * a2))),t103))))))=some (r1,r2):=H
    have A7:=k0 nE
    clear nE
    replace H:=Option.bind_eq_some_iff.mp H
    obtain ⟨t102,xY,H⟩:=H
    replace H:(if t102=0 then (none) else (if t101 > (wrap64 ((1000000000000000:Int) / t102)) then (some (0,false)) else ((sP.f (wrap64 (a0+(wrap64 (a1 * a2))))).bind fun t103=>(some (wrap64 (a0+(wrap64 (a1 * a2))),t103)))))=some (r1,r2):=H
    have A8:=k0 xY
    clear xY
    by_cases c9:t102=0
    case neg =>
     rw [if_neg c9] at H
     have ap8:(t102 == 0)=false:=beq_eq_false_iff_ne.mpr c9
     have BD:(t102 != 0)=true:=bne_iff_ne.mpr c9
     by_cases c10:t101 > (wrap64 ((1000000000000000:Int) / t102))
     case neg =>
      rw [if_neg c10] at H
      have qI:decide ((wrap64 ((1000000000000000:Int) / t102)) < t101)=false:=decide_eq_false c10
      have XD:decide ((wrap64 (Int.tdiv 1000000000000000 t102)) < t101)=false:=by rw [Int.tdiv_eq_ediv_of_nonneg (by decide)];exact qI
      clear c10
      replace H:=Option.bind_eq_some_iff.mp H
      obtain ⟨t103,tV,H⟩:=H
      replace H:(some (wrap64 (a0+(wrap64 (a1 * a2))),t103))=some (r1,r2):=H
      have qw:=k0 tV
      clear tV
      simp only [Option.some.injEq,Prod.mk.injEq] at H
      obtain ⟨rfl,rfl⟩:=H
      go_wp2_with (first|((with_reducible refine bg (f:=165) rfl ?_);refine gC (some 16) Try.func165 #[.int .i64 a1] ?_;(with_reducible refine (l8.calls a1 t101 _ A7.z).mono ?_);rintro e tL ⟨rfl,hb⟩;refine ⟨_,rfl,?_⟩;replace HB:=k0 (aH bl hb);)|((with_reducible refine bg (f:=165) rfl ?_);refine gC (some 18) Try.func165 #[.int .i64 a2] ?_;(with_reducible refine (l8.calls a2 t102 _ A8.z).mono ?_);rintro e qq ⟨rfl,hb⟩;refine ⟨_,rfl,?_⟩;replace HB:=k0 (aH bl hb);)|((with_reducible refine bg (f:=218) rfl ?_);refine gC (some 28) Try.func218 #[.int .i64 (wrap64 (a0+(wrap64 (a1 * a2))))] ?_;(with_reducible refine (sP.calls (wrap64 (a0+(wrap64 (a1 * a2)))) t103 _ qw.z).mono ?_);rintro e w' ⟨rfl,⟨nd,rfl⟩⟩;refine ⟨_,rfl,?_⟩))
      go_ret2
      exact ⟨eR,bl⟩
     rw [if_pos c10] at H
     have qI:=decide_eq_true c10
     have XD:decide ((wrap64 (Int.tdiv 1000000000000000 t102)) < t101)=true:=by rw [Int.tdiv_eq_ediv_of_nonneg (by decide)];exact qI
     clear c10
     simp only [Option.some.injEq,Prod.mk.injEq] at H
     obtain ⟨rfl,rfl⟩:=H
     go_wp2_with (first|((with_reducible refine bg (f:=165) rfl ?_);refine gC (some 16) Try.func165 #[.int .i64 a1] ?_;(with_reducible refine (l8.calls a1 t101 _ A7.z).mono ?_);rintro e vp ⟨rfl,hb⟩;refine ⟨_,rfl,?_⟩;replace HB:=k0 (aH bl hb);)|((with_reducible refine bg (f:=165) rfl ?_);refine gC (some 18) Try.func165 #[.int .i64 a2] ?_;(with_reducible refine (l8.calls a2 t102 _ A8.z).mono ?_);rintro e vq ⟨rfl,hb⟩;refine ⟨_,rfl,?_⟩;replace HB:=k0 (aH bl hb);))
     go_ret2
     exact ⟨eR,bl⟩
    rw [if_pos c9] at H
    exact absurd H (by simp)
   subst c6
   have H1:(some (a0,true))=some (r1,r2):=by rw [if_pos rfl] at H;exact H
   clear H
   have H:=H1
   clear H1
   simp only [Option.some.injEq,Prod.mk.injEq] at H
   obtain ⟨rfl,rfl⟩:=H
   go_wp2
   go_ret2
   exact ⟨eR,bl⟩
/-! ### F151: function 151 -/
theorem PS (w:World) (a:Option Addr) (n c:Nat):(binOp .eql 28 (.slice a n c) (.slice none 0 0)).run Try.prog w=.ok (.bool a.isNone) w:=Lib.run_eql_slice_nil w _ _ a n c 0 0 Try.underlying28
def sN.f (l0:List Int):Option (List Int):=if l0.length < 17592186044416 then some l0 else none
theorem sN.calls (A0 : Option Addr) (c0 : Nat) (l0 : List Int) (r : List Int) (w : World) (cY : Kd.C (Kd.int .i64) w A0 l0.length l0) (hc0 : l0.length ≤ c0) (h : sN.f l0 = some r) :
  Calls Try.prog 151 #[.slice A0 l0.length c0] w fun e w'=>∃ eE:Value,e=.returned (eE)∧Kd.R (Kd.int .i64) 2 w' w.heap.size (fun _=>True) eE r∧Below w.heap.size w w':=by
 have ek:=k0 cY
 have jx:=k0 hc0
 clear cY hc0
 unfold sN.f at h
 by_cases c2:l0.length < 17592186044416
 case neg =>
  rw [if_neg c2] at h
  exact absurd h (by simp)
 rw [if_pos c2] at h
 obtain rfl:=Option.some.inj h
 clear h
 cases A0 with
 | none =>
  have hn:l0=[]:=by
   by_cases hz:l0.length=0
   case neg =>
    obtain ⟨ad,e,_⟩:=Kd.cN ek.z 0 (by omega) (by omega)
    cases e
   exact List.eq_nil_of_length_eq_zero hz
  subst hn
  have q_:=PS
  go_enter Try.func151,Try.ntmps151
  go_wp2
  go_ret
  exact ⟨_,rfl,Kd.kO _ _ _ _ _,Below.refl _ _⟩
 | some ad =>
  have HB:=k0 (Below.refl w.heap.size w)
  have Js:=k0 c2
  clear c2
  have q_:=PS
  go_enter Try.func151,Try.ntmps151
  go_wp2_with (first|((with_reducible refine bp (N:=5) rfl ?_);refine Kd.jr (Kd.int .i64) _ 2 ?hg (N:=5) ?hd (xs:=([]:List Int)) (inner:=[]) (ok:=fun _=>True) (b_:=fun _=>True) ?hr ?hp (fun _ hk=>hk) trivial (Below.refl _ _) (Nat.le_refl _) (by simp) ?_;(case hd=>rfl);(case hg=>rfl);(case hr=>first|(go_simp;done)|(go_simp;rfl));(case hp=>exact (bh.none _ _));intro o5 w3 nM hb cJ cK;clear cJ cK;have eJ:=k0 (Kd.cU nM (aoS bl));replace HB:=k0 (aH bl hb);clear hb nM)|((with_reducible refine kQ (b:=.append) (xs:=#[.tmp 5,.tmp 6]) rfl ?_);at_builtin;refine Kd.OT (Kd.int .i64) (w0:=w) w.heap.size rfl (.tmp 5) (.tmp 6) 28 2 (.int .i64 0) 8 rfl Try.underlying28 mR rfl (by decide) (by omega) o5 ([]:List Int) l0 _ _ _ (fun _=>True) (fun _=>False) rfl rfl ?aO ?aR (fun _ _ h=>h) (fun _ h=>h.elim) ?aF ?aB ?aS ?aL ?_;(case aR=>repeat (first|exact (Kd.ao4 ek.z HB.z)|(with_reducible refine Kd.wL ?_ _)|(with_reducible refine Kd.zh ?_ _)|(with_reducible refine Kd.vG ?_)));(case aB=>exact bl);(case aF=>exact (fun _ _=>trivial));(case aO=>exact (aR eJ.z));(case aS=>exact (aoS bl));(case aL=>have:=Js.out;simp;omega);intro v105 w5 ho hb hg ao1;rw [List.nil_append] at ho;have aq:=k0 (hb);have au:=k0 (ho);clear HB;clear eJ;have HB:=aq;have gp:=au;clear aq au;clear ho hb hg ao1))
  go_ret
  exact ⟨_,by first|rfl|(simp;done),by (with_reducible repeat (first|apply Kd.dK|apply Kd.dD|apply Kd.cB));exact gp.z,bl⟩
/-! ### F168: function 168 -/
def mK.l0 : Nat → List Int → Option (List Int)
 | 0,_=>none
 | k+1,x0=>if (x0.length:Int) > 0 then (if 0≤(wrap64 ((x0.length:Int) - 1)) then (if (wrap64 ((x0.length:Int) - 1)) < (x0.length:Int) then (if (rd x0 (wrap64 ((x0.length:Int) - 1)))=0 then (if (wrap64 ((x0.length:Int) - 1))≤(x0.length:Int) then (mK.l0 k (x0.take ((wrap64 ((x0.length:Int) - 1)):Int).toNat)) else (none)) else ((sN.f x0).bind fun t107=>(some t107))) else (none)) else (none)) else ((sN.f x0).bind fun t110=>(some t110))
def mK.f (k:Nat) (l0:List Int):Option (List Int):=mK.l0 k l0
theorem mK.calls (k : Nat) (fK : Nat → Prop) (A0 : Option Addr) (c0 : Nat) (l0 : List Int) (r : List Int) (w : World) (hs0 : Kd.V (Kd.int .i64) 2 w w.heap.size (fun k_ => fK k_) (.slice A0 l0.length c0) l0) (h : mK.f k l0 = some r) :
  Calls Try.prog 168 #[.slice A0 l0.length c0] w fun e w'=>∃ eE:Value,e=.returned (eE)∧Kd.R (Kd.int .i64) 2 w' w.heap.size (fun k_=>(w.heap.size≤k_)) eE r∧Below w.heap.size w w':=by
 have apl:=k0 (show Kd.V (Kd.int .i64) 2 w w.heap.size (fun k_=>(fK k_∨w.heap.size≤k_)) (.slice A0 l0.length c0) l0 from Kd.bP hs0 (fun k_ hk=>.inl hk))
 have HB:=k0 (Below.refl w.heap.size w)
 have H:(mK.l0 k l0)=some r:=h
 clear h
 have H':=k0 H
 clear H
 go_enter Try.func168,Try.ntmps168
 go_wp2
 go_loopg [0] k (fun kq v0 w'=>∃ (j9:List Int),aj (mK.l0 kq j9=some r)∧aj (kq≤k)∧aj (Kd.V (Kd.int .i64) 2 w' w.heap.size (fun k_=>(fK k_∨w.heap.size≤k_)) v0 j9)∧aj (Below w.heap.size w w'))
 case atStart=>exact ⟨(l0),H',⟨Nat.le_refl _⟩,⟨aV (apl.z)⟩,⟨bl⟩⟩
 case round =>
  clear H'
  obtain ⟨j9,HA,bx,eX,HB⟩:=hrel
  cases gk with
  | zero=>exact absurd HA.z (by simp [mK.l0])
  | succ k1 =>
   have H:=HA.z
   clear HA
   simp only [mK.l0] at H
   by_cases c2:(j9.length:Int) > 0
   case neg =>
    rw [if_neg c2] at H
    have xb:decide (0 < (j9.length:Int))=false:=decide_eq_false c2
    have JW:decide (0 < j9.length)=false:=decide_eq_false (by omega)
    clear c2
    replace H:=Option.bind_eq_some_iff.mp H
    obtain ⟨t110,xR,H⟩:=H
    replace H:(some t110)=some r:=H
    have CX:=k0 xR
    clear xR
    obtain rfl:=Option.some.inj H
    obtain ⟨zf,zR,D5⟩:=Kd.aqn eX.z
    subst D5
    go_wp2_with (first|((with_reducible refine bg (f:=151) rfl ?_);refine gC (some 21) Try.func151 #[.slice zf j9.length zR] ?_;(with_reducible refine (sN.calls _ _ j9 t110 _ ?aoN ?aoP CX.z).mono ?_);(case aoN=>exact aC ((Kd.dm eX.z).2.2));(case aoP=>exact (Kd.dm eX.z).2.1);rintro e xE ⟨jF,rfl,aD,hb⟩;refine ⟨_,rfl,?_⟩;replace eX:=k0 (Kd.dV (aV eX.z) (Kd.aU aD) hb);have rS:=k0 (Kd.cU (Kd.rj (M:=fun k_=>(w.heap.size≤k_)) aD (aoS bl) (fun k_ h_=>h_)) (aoS bl));replace HB:=k0 (aH bl hb);))
    go_ret
    exact ⟨_,eR,by (with_reducible repeat (first|apply Kd.dK|apply Kd.dD|apply Kd.cB));exact Kd.aoY rS.z (fun _ hk=>hk.1),bl⟩
   rw [if_pos c2] at H
   have xb:=decide_eq_true c2
   have JW:decide (0 < j9.length)=true:=decide_eq_true (by omega)
   clear c2
   obtain ⟨bQ,lN⟩:∃ j_:Int,(wrap64 ((j9.length:Int) - 1))=j_:=⟨_,rfl⟩
   replace H:(if 0≤(bQ) then (if (bQ) < (j9.length:Int) then (if (rd j9 (bQ))=0 then (if (bQ)≤(j9.length:Int) then (mK.l0 k1 (j9.take ((bQ):Int).toNat)) else (none)) else ((sN.f j9).bind fun t107=>(some t107))) else (none)) else (none))=some r:=by first|(rw [lN] at H;exact H)|(simp only [lN] at H ⊢;exact H)
   have Lr:(IntKind.i64.wrap ((j9.length:Int) - 1))=bQ:=(cm _).trans lN
   replace H:=iS H;obtain ⟨c4,H⟩:=H
   have fX:=decide_eq_true c4
   clear c4
   replace H:=iS H;obtain ⟨c5,H⟩:=H
   have jt:=decide_eq_true c5
   clear c5
   by_cases c6:(rd j9 (bQ))=0
   case neg =>
    rw [if_neg c6] at H
    have kG:((rd j9 (bQ)) == 0)=false:=beq_eq_false_iff_ne.mpr c6
    have apZ:((rd j9 (bQ)) != 0)=true:=bne_iff_ne.mpr c6
    replace H:=Option.bind_eq_some_iff.mp H
    obtain ⟨t107,xP,H⟩:=H
    replace H:(some t107)=some r:=H
    have CW:=k0 xP
    clear xP
    obtain rfl:=Option.some.inj H
    obtain ⟨dc,cW,uA⟩:=Kd.aqn eX.z
    subst uA
    have apa:0≤((bQ):Int):=oD
    have apb:(bQ) < (j9.length:Int):=oD
    obtain ⟨mj,e101,lp⟩:=Kd.cN (Kd.dm eX.z).2.2 (bQ) apa apb
    cases e101
    replace apa:=eq_true apa
    replace apb:=eq_true apb
    go_wp2_with (first|((with_reducible refine bg (f:=151) rfl ?_);refine gC (some 21) Try.func151 #[.slice (some mj) j9.length cW] ?_;(with_reducible refine (sN.calls _ _ j9 t107 _ ?aoN ?aoP CW.z).mono ?_);(case aoN=>exact aC ((Kd.dm eX.z).2.2));(case aoP=>exact (Kd.dm eX.z).2.1);rintro e tK ⟨vo,rfl,aD,hb⟩;refine ⟨_,rfl,?_⟩;replace eX:=k0 (Kd.dV (aV eX.z) (Kd.aU aD) hb);have eB:=k0 (Kd.cU (Kd.rj (M:=fun k_=>(w.heap.size≤k_)) aD (aoS bl) (fun k_ h_=>h_)) (aoS bl));replace HB:=k0 (aH bl hb);))
    go_ret
    exact ⟨_,by first|rfl|(simp [je,jf]<;>rfl)|(simp only [← lN];first|rfl|(simp [je,jf]<;>rfl))|(simp [*,je,jf]<;>rfl),by (with_reducible repeat (first|apply Kd.dK|apply Kd.dD|apply Kd.cB));exact Kd.aoY eB.z (fun _ hk=>hk.1),bl⟩
   rw [if_pos c6] at H
   have kG:((rd j9 (bQ)) == 0)=true:=beq_iff_eq.mpr c6
   have apZ:((rd j9 (bQ)) != 0)=false:=bne_eq_false_iff_eq.mpr c6
   clear c6
   have oO:=eq_true (oD:0≤(bQ))
   replace H:=iS H;obtain ⟨c8,H⟩:=H
   have kH:=eq_true c8
   have qL:=decide_eq_true c8
   clear c8
   obtain ⟨oA,qU⟩:∃ y_:List Int,y_=(j9.take ((bQ):Int).toNat):=⟨_,rfl⟩
   replace H:(mK.l0 k1 oA)=some r:=rH qU H
   have ug:=k0 qU
   clear qU
   have H':=k0 H
   clear H
   obtain ⟨FL,yt,Kg⟩:=Kd.aqn eX.z
   subst Kg
   have apa:0≤((bQ):Int):=oD
   have apb:(bQ) < (j9.length:Int):=oD
   obtain ⟨mj,e101,lp⟩:=Kd.cN (Kd.dm eX.z).2.2 (bQ) apa apb
   cases e101
   replace apa:=eq_true apa
   replace apb:=eq_true apb
   have ML:((bQ):Int)≤((j9.length:Int):Int):=oD
   obtain ⟨i010,EE,_,Hp,_⟩:=info_parts mR
   have St:j9.length≤yt:=(Kd.dm eX.z).2.1
   have Ek:Kd.F (Kd.int .i64) _ _ (some mj) j9.length j9:=(Kd.DK (base:=w.heap.size) eX.z).2.2
   have Q6:=YF (P:=Try.prog) 28 2 .i64 Try.underlying28 EE (some mj) j9.length yt (bQ) oD ML St
   have LH:=Kd.Vp (m:=((bQ):Int).toNat) Ek (by omega)
   have LL:oA.length=((bQ):Int).toNat:=(by rw [ug.z,List.length_take];omega)
   rw [← ug.z] at LH
   rw [← LL] at Q6
   have gp:=k0 (show Kd.V (Kd.int .i64) 2 _ w.heap.size _ (.slice (some mj) oA.length yt) oA from Kd.W0 (by omega) LH)
   have Od:=k0 (show oA.length≤yt from by omega)
   clear LH Ek St EE Hp
   have agW:=k0 LL
   clear LL
   replace ML:=eq_true ML
   go_wp2
   first|go_roundg k1|(simp only [← lN];go_roundg k1)
   case measure=>have:=bx.z;omega
   case rel=>exact ⟨(oA),(by first|exact H'|(rw [lN];exact H')),⟨by have:=bx.z;omega⟩,⟨aV (gp.z)⟩,⟨bl⟩⟩
end Go.Proofs.Ytoebojnhchocaaa.E
/- Set with little white space, by a program. -/
