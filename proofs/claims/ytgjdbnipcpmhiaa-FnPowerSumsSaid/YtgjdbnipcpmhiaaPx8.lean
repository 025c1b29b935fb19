/- Go's calls come to what the Lean functions say. Condition of each: that the Lean function answers. -/
import Derived.Test.YtgjdbnipcpmhiaaPx0
import Derived.Test.YtgjdbnipcpmhiaaPx5
import Derived.Test.YtgjdbnipcpmhiaaPx7
namespace Go.Proofs.Ytgjdbnipcpmhiaa.P
open Go.RowKit Go.Proofs.YtgjdbnipcpmhiaaW.PrintWords Go.Proofs.YtgjdbnipcpmhiaaW.PrintLast Go.Proofs.YtgjdbnipcpmhiaaW.PrintMore
attribute [local go_sem] max2_int min2_int max_two min_two max_three min_three max_four min_four
set_option linter.unusedVariables false
set_option linter.unusedSimpArgs false
set_option maxHeartbeats 8000000
set_option maxRecDepth 100000
/-! ### F77: function 77 -/
def F77.l0 : Nat → List Int → Option (List Int)
 | 0,_=>none
 | k+1,x0=>if (x0.length:Int) > 0 then (if 0≤(wrap64 ((x0.length:Int) - 1)) then (if (wrap64 ((x0.length:Int) - 1)) < (x0.length:Int) then (if (rd x0 (wrap64 ((x0.length:Int) - 1)))=0 then (if (wrap64 ((x0.length:Int) - 1))≤(x0.length:Int) then (F77.l0 k (x0.take ((wrap64 ((x0.length:Int) - 1)):Int).toNat)) else (none)) else ((F52.f x0).bind fun t107=>(some t107))) else (none)) else (none)) else ((F52.f x0).bind fun t110=>(some t110))
def F77.f (k:Nat) (l0:List Int):Option (List Int):=F77.l0 k l0
theorem F77.calls (k : Nat) (P0_ : Nat → Prop) (A0 : Option Addr) (c0 : Nat) (l0 : List Int) (r : List Int) (w : World) (hs0 : Kd.V (Kd.int .i64) 2 w w.heap.size (fun k_ => P0_ k_) (.slice A0 l0.length c0) l0) (h : F77.f k l0 = some r) :
  Calls Try.prog 77 #[.slice A0 l0.length c0] w fun e w'=>∃ v0_:Value,e=.returned (v0_)∧Kd.R (Kd.int .i64) 2 w' w.heap.size (fun k_=>(w.heap.size≤k_)) v0_ r∧Below w.heap.size w w':=by
 have HO0:=k0 (show Kd.V (Kd.int .i64) 2 w w.heap.size (fun k_=>(P0_ k_∨w.heap.size≤k_)) (.slice A0 l0.length c0) l0 from Kd.V_mono hs0 (fun k_ hk=>.inl hk))
 have HB:=k0 (Below.refl w.heap.size w)
 unfold F77.f at h
 have H:=h
 clear h
 have H':=k0 H
 clear H
 go_enter Try.func77,Try.ntmps77
 go_wp2
 go_loopg [0] k (fun kq v0 w'=>∃ (x0_1:List Int),Aside0 (F77.l0 kq x0_1=some r)∧Aside0 (kq≤k)∧Aside0 (Kd.V (Kd.int .i64) 2 w' w.heap.size (fun k_=>(P0_ k_∨w.heap.size≤k_)) v0 x0_1)∧Aside0 (Below w.heap.size w w'))
 case atStart=>exact ⟨(l0),H',⟨Nat.le_refl _⟩,⟨aV (HO0.z)⟩,⟨bl⟩⟩
 case round =>
  clear H'
  obtain ⟨x0_1,HA,HK1,HO_0,HB⟩:=hrel
  cases gk with
  | zero=>exact absurd HA.z (by simp [F77.l0])
  | succ k1 =>
   have H:=HA.z
   clear HA
   simp only [F77.l0] at H
   by_cases c2:(x0_1.length:Int) > 0
   case neg =>
    rw [if_neg c2] at H
    have c2b0:=decide_eq_false c2
    have c2b1:decide (0 < x0_1.length)=false:=decide_eq_false (by omega)
    clear c2
    replace H:=bS H;obtain ⟨t110,A14,H⟩:=H
    obtain rfl:=Option.some.inj H
    obtain ⟨Ao15,co15,rfl⟩:=Kd.V_slice HO_0.z
    go_wp2_with (first|(refine gate_callee (f:=52) rfl ?_;refine gC (some 21) Try.func52 #[.slice Ao15 x0_1.length co15] ?_;(with_reducible refine (F52.calls _ _ x0_1 t110 _ ?side1 ?side2 A14.z).mono ?_);(case side1=>exact aC ((Kd.V_reads' HO_0.z).2.2));(case side2=>exact (Kd.V_reads' HO_0.z).2.1);rintro e w16 ⟨v111,rfl,ho0,hb⟩;refine ⟨_,rfl,?_⟩;replace HO_0:=elV HO_0 (Kd.R_base ho0) hb;have HO112:=k0 (Kd.R_lower (Kd.R_newM (M:=fun k_=>(w.heap.size≤k_)) ho0 (below_size bl) (fun k_ h_=>h_)) (below_size bl));replace HB:=bW hb))
    go_ret
    exact ⟨_,eR,aR (Kd.R_mono HO112.z (fun _ hk=>hk.1)),bl⟩
   rw [if_pos c2] at H
   have c2b0:=decide_eq_true c2
   have c2b1:decide (0 < x0_1.length)=true:=decide_eq_true (by omega)
   clear c2
   obtain ⟨ji3,hji3⟩:∃ j_:Int,(wrap64 ((x0_1.length:Int) - 1))=j_:=⟨_,rfl⟩
   replace H:(if 0≤(ji3) then (if (ji3) < (x0_1.length:Int) then (if (rd x0_1 (ji3))=0 then (if (ji3)≤(x0_1.length:Int) then (F77.l0 k1 (x0_1.take ((ji3):Int).toNat)) else (none)) else ((F52.f x0_1).bind fun t107=>(some t107))) else (none)) else (none))=some r:=by first|(rw [hji3] at H;exact H)|(simp only [hji3] at H ⊢;exact H)
   have hji3w:(IntKind.i64.wrap ((x0_1.length:Int) - 1))=ji3:=(i64_w _).trans hji3
   replace H:=iS H;obtain ⟨c4,H⟩:=H
   have c4b0:=decide_eq_true c4
   clear c4
   replace H:=iS H;obtain ⟨c5,H⟩:=H
   have c5b0:=decide_eq_true c5
   clear c5
   replace H:=iE H;obtain ⟨c6,c6b0,c6b1,H⟩|⟨c6b0,c6b1,H⟩:=H
   case inl =>
    replace H:=bS H;obtain ⟨t107,A11,H⟩:=H
    obtain rfl:=Option.some.inj H
    obtain ⟨Ao12,co12,rfl⟩:=Kd.V_slice HO_0.z
    have p101:0≤((ji3):Int):=oD
    have q101:(ji3) < (x0_1.length:Int):=oD
    obtain ⟨ad101,e101,hx101_0⟩:=Kd.at_int (Kd.V_reads' HO_0.z).2.2 (ji3) p101 q101
    cases e101
    replace p101:=eT p101
    replace q101:=eT q101
    go_wp2_with (first|(refine gate_callee (f:=52) rfl ?_;refine gC (some 21) Try.func52 #[.slice (some ad101) x0_1.length co12] ?_;(with_reducible refine (F52.calls _ _ x0_1 t107 _ ?side1 ?side2 A11.z).mono ?_);(case side1=>exact aC ((Kd.V_reads' HO_0.z).2.2));(case side2=>exact (Kd.V_reads' HO_0.z).2.1);rintro e w13 ⟨v108,rfl,ho0,hb⟩;refine ⟨_,rfl,?_⟩;replace HO_0:=elV HO_0 (Kd.R_base ho0) hb;have HO109:=k0 (Kd.R_lower (Kd.R_newM (M:=fun k_=>(w.heap.size≤k_)) ho0 (below_size bl) (fun k_ h_=>h_)) (below_size bl));replace HB:=bW hb))
    go_ret
    exact ⟨_,by first|rfl|(simp [errW_none,errW_some]<;>rfl)|(simp only [← hji3];first|rfl|(simp [errW_none,errW_some]<;>rfl))|(simp [*,errW_none,errW_some]<;>rfl),aR (Kd.R_mono HO109.z (fun _ hk=>hk.1)),bl⟩
   have c7b0:=eq_true (oD:0≤(ji3))
   replace H:=iS H;obtain ⟨c8,H⟩:=H
   have c8b0:=eq_true c8
   have c8b1:=decide_eq_true c8
   clear c8
   obtain ⟨y102,Ny102⟩:=nY (x0_1.take ((ji3):Int).toNat:List Int)
   replace H:(F77.l0 k1 y102)=some r:=rH Ny102.z H
   have H':=k0 H
   clear H
   obtain ⟨Ao9,co9,rfl⟩:=Kd.V_slice HO_0.z
   have p101:0≤((ji3):Int):=oD
   have q101:(ji3) < (x0_1.length:Int):=oD
   obtain ⟨ad101,e101,hx101_0⟩:=Kd.at_int (Kd.V_reads' HO_0.z).2.2 (ji3) p101 q101
   cases e101
   replace p101:=eT p101
   replace q101:=eT q101
   have q10:((ji3):Int)≤((x0_1.length:Int):Int):=oD
   obtain ⟨i010,hi010,_,hsz10,_⟩:=info_parts info2
   have hroom10:x0_1.length≤co9:=(Kd.V_reads' HO_0.z).2.1
   have hC10:Kd.F (Kd.int .i64) _ _ (some ad101) x0_1.length x0_1:=(Kd.V_at (base:=w.heap.size) HO_0.z).2.2
   have hcut10:=cut_to (P:=Try.prog) 27 2 .i64 Try.underlying27 hi010 (some ad101) x0_1.length co9 (ji3) oD q10 hroom10
   have hr10:=Kd.F_take (m:=((ji3):Int).toNat) hC10 (by omega)
   have hy10:y102.length=((ji3):Int).toNat:=(by rw [Ny102.z,List.length_take];omega)
   rw [← Ny102.z] at hr10
   rw [← hy10] at hcut10
   have HO106:=k0 (show Kd.V (Kd.int .i64) 2 _ w.heap.size _ (.slice (some ad101) y102.length co9) y102 from Kd.V_mk (by omega) hr10)
   have HC106:=k0 (show y102.length≤co9 from by omega)
   clear hr10 hC10 hroom10 hi010 hsz10
   have KY10:=k0 hy10
   clear hy10
   replace q10:=eT q10
   go_wp2
   first|go_roundg k1|(simp only [← hji3];go_roundg k1)
   case measure=>have:=HK1.z;omega
   case rel=>exact ⟨(y102),(by first|exact H'|(rw [hji3];exact H')),⟨by have:=HK1.z;omega⟩,⟨aV (HO106.z)⟩,⟨bl⟩⟩
/-! ### F27: function 27 -/
mutual
def F27.l0 : Nat → List Int → List Int → Int → Option (List Int × Int)
 | 0,_,_,_=>none
 | k+1,x0,x4,x5=>if x5≤(x0.length:Int) then (F27.l1 k x0 x4 x5 0 true 0) else ((F77.f k x4).bind fun t105=>(some (t105,0)))
def F27.j2 : Nat → List Int → List Int → Int → Int → Bool → Option (List Int × Int)
 | 0,_,_,_,_,_=>none
 | k+1,x0,x4,x5,x6,x7=>if x7=true then (if x5=0 then (none) else (if (Int.tmod x6 x5)=0 then (if x4.length < 17592186044416 then (F27.l0 k x0 (x4 ++ [wrap64 (Int.tdiv (wrap64 (-x6)) x5)]) (wrap64 (x5+1))) else (none)) else (some (([]:List Int),4)))) else (some (([]:List Int),3))
def F27.l1 : Nat → List Int → List Int → Int → Int → Bool → Int → Option (List Int × Int)
 | 0,_,_,_,_,_,_=>none
 | k+1,x0,x4,x5,x6,x7,x8=>if x8 < x5 then (if x7=true then (if 0≤x8 then (if x8 < (x4.length:Int) then (if 0≤(wrap64 ((wrap64 (x5 - x8)) - 1)) then (if (wrap64 ((wrap64 (x5 - x8)) - 1)) < (x0.length:Int) then ((F72.f k x6 (rd x4 x8) (rd x0 (wrap64 ((wrap64 (x5 - x8)) - 1)))).bind fun bt110=>(F27.l1 k x0 x4 x5 bt110.1 bt110.2 (wrap64 (x8+1)))) else (none)) else (none)) else (none)) else (none)) else (F27.j2 k x0 x4 x5 x6 x7)) else (F27.j2 k x0 x4 x5 x6 x7)
end
def F27.f (k:Nat) (l0:List Int):Option (List Int × Int):=(F76.f l0).bind fun t101=>(if t101=true then (F27.l0 k l0 (([1]:List Int)) 1) else (some (([]:List Int),2)))
def F27.T11:Bool × List (List Nat × List Nat):=(true,[([],[]),([],[]),([],[]),([1,2],[1,2]),([3],[3]),([],[]),([],[]),([],[]),([6,7],[6,7]),([8],[8]),([5,9],[5,9]),([10],[10]),([0,4,11],[0,4,11]),([12],[12]),([13],[13]),([13],[13]),([14,12,0,1,2,3,4,5,6,7,8,9,10,11,12,13,14],[0,14]),([15,16,0,1,2,3,4,5,6,7,8,9,10,11,12,13,14,15,16],[15])])
def F27.B11:List Nat:=[0,0,0,6,14,0,0,0,192,448,992,2016,4095,8191,16383,16383,32767,131071]
theorem F27.tab11:rtab .any (opsOf Try.f27 11)=F27.T11:=by kernel_rfl
theorem F27.bits11:waitsOk F27.T11.2 F27.B11=true:=by kernel_rfl
theorem F27.calls (k : Nat) (A0 : Option Addr) (c0 : Nat) (l0 : List Int) (r1 : List Int) (r2 : Int) (w : World) (hr0 : Kd.C (Kd.int .i64) w A0 l0.length l0) (hc0 : l0.length ≤ c0) (h : F27.f k l0 = some (r1, r2)) :
  Calls Try.prog 27 #[.slice A0 l0.length c0] w fun e w'=>∃ v0_:Value,e=.returned (.tuple #[v0_,.int .i64 r2])∧Kd.R (Kd.int .i64) 2 w' w.heap.size (fun _=>True) v0_ r1∧Below w.heap.size w w':=by
 have HR0:=k0 hr0
 have HC0:=k0 hc0
 clear hr0 hc0
 have HB:=k0 (Below.refl w.heap.size w)
 unfold F27.f at h
 have H:=h
 clear h
 replace H:=bS H;obtain ⟨t101,A2,H⟩:=H
 cases t101
 case false =>
  replace H:=iF H
  obtain ⟨rfl,rfl⟩:=zSo H
  go_enter Try.func27,Try.ntmps27
  go_wp2_with (first|(refine gate_callee (f:=76) rfl ?_;refine gC (some 10) Try.func76 #[.slice A0 l0.length c0] ?_;(with_reducible refine (F76.calls _ _ l0 false _ ?side1 ?side2 A2.z).mono ?_);(case side1=>exact aC HR0.z);(case side2=>exact HC0.z);rintro e w28 ⟨rfl,hb⟩;refine ⟨_,rfl,?_⟩;replace HB:=bW hb))
  go_ret2
  exact ⟨_,eR,by first|exact Kd.R_nil _ _ _ _ _|exact Kd.N_nil _ _ _ _ _|exact Kd.V_nil _ _ _ _ _|exact Kd.Q_nil _ _ _ _ _|exact Kd.S_nil _ _ _ _ _,bl⟩
 replace H:=iT H
 obtain ⟨y102,Ny102⟩:=nY (([1]:List Int):List Int)
 replace H:(F27.l0 k l0 y102 1)=some (r1,r2):=rH Ny102.z H
 have H':=k0 H
 clear H
 go_enter Try.func27,Try.ntmps27
 go_wp2_with (first|(refine gate_callee (f:=76) rfl ?_;refine gC (some 10) Try.func76 #[.slice A0 l0.length c0] ?_;(with_reducible refine (F76.calls _ _ l0 true _ ?side1 ?side2 A2.z).mono ?_);(case side1=>exact aC HR0.z);(case side2=>exact HC0.z);rintro e w4 ⟨rfl,hb⟩;refine ⟨_,rfl,?_⟩;replace HB:=bW hb)|(refine gate_dst (N:=12) rfl ?_;refine zRt 2 (N:=12) (xs:=([1]:List Int)) (inner:=[.int .i64 1]) (Reps.one (show Kd.M (Kd.int .i64) _ _ _ 1 [.int .i64 1] from rfl) (Reps.none _ _)) ?_;intro v103 w5 ho6 hb hg_ hnew_;clear hg_ hnew_;(first|rw [← Ny102.z] at ho6|(simp only [Int.reduceToNat] at ho6;rw [← Ny102.z] at ho6));have HO104:=k0 (Kd.R_lower ho6 (below_size bl));replace HB:=bW hb;clear hb ho6))
 go_loopg [4,5] k (fun kq v4 v5 w'=>∃ (x4_1:List Int) (x5_1:Int),v5=.int .i64 x5_1∧Aside0 (F27.l0 kq l0 x4_1 x5_1=some (r1,r2))∧Aside0 (kq≤k)∧Aside0 (Kd.R (Kd.int .i64) 2 w' w.heap.size (fun _=>True) v4 x4_1)∧Aside0 (Below w.heap.size w w'))
 case atStart=>exact ⟨(y102),(1),rs,H',⟨Nat.le_refl _⟩,⟨aR (HO104.z)⟩,⟨bl⟩⟩
 case round =>
  clear H'
  obtain ⟨x4_1,x5_1,rfl,HA,HK1,HO_4,HB⟩:=hrel
  cases gk with
  | zero=>exact absurd HA.z (by simp [F27.l0])
  | succ k1 =>
   have H:=HA.z
   clear HA
   simp only [F27.l0] at H
   replace H:=iC H;obtain ⟨c7b0,H⟩|⟨c7b0,H⟩:=H
   case inl =>
    replace H:=bS H;obtain ⟨t105,A25,H⟩:=H
    obtain ⟨rfl,rfl⟩:=zSo H
    obtain ⟨Ao26,co26,rfl⟩:=Kd.R_slice HO_4.z
    go_wp2_with (first|(refine gate_callee (f:=77) rfl ?_;refine gC (some 59) Try.func77 #[.slice Ao26 x4_1.length co26] ?_;(with_reducible refine (F77.calls k1 (fun k_=>some k_=(.slice Ao26 x4_1.length co26:Value).ownBlock) _ _ x4_1 t105 _ ?side1 A25.z).mono ?_);(case side1=>exact Kd.R_V (Kd.R_tight rfl (HO_4.z)));rintro e w27 ⟨v106,rfl,ho0,hb⟩;refine ⟨_,rfl,?_⟩;have HO107:=k0 (Kd.R_lower (Kd.R_new' (Kd.R_mono (ok':=fun k_=>True) ho0 (fun _ hk_=>trivial)) (Kd.R_lt (aR HO_4.z))) (below_size bl));replace HO_4:=elR HO_4 (Kd.R_base ho0) hb;replace HB:=bW hb))
    go_ret2
    exact ⟨_,eR,aR (Kd.R_mono HO107.z (fun _ hk=>trivial)),bl⟩
   have HC8:=k0 H
   clear H
   go_upto_block 2 with (fail)
   go_cut [6,7] (fun v6 v7 wc=>∃ (kq:Nat) (x6_7:Int) (x7_7:Bool),v6=.int .i64 x6_7∧v7=.bool x7_7∧Aside0 (F27.j2 kq l0 x4_1 x5_1 x6_7 x7_7=some (r1,r2))∧Aside0 (kq≤k1)∧Aside0 (Kd.R (Kd.int .i64) 2 wc w.heap.size (fun _=>True) u4 x4_1)∧Aside0 (Below w.heap.size w wc))
   case first =>
    have H:=HC8.z
    clear HC8
    have H':=k0 H
    clear H
    go_wp2
    go_loopg [6,7,8] k1 (fun kq v6 v7 v8 w'=>∃ (x6_2:Int) (x7_2:Bool) (x8_2:Int),v6=.int .i64 x6_2∧v7=.bool x7_2∧v8=.int .i64 x8_2∧Aside0 (F27.l1 kq l0 x4_1 x5_1 x6_2 x7_2 x8_2=some (r1,r2))∧Aside0 (kq≤k1)∧Aside0 (Kd.R (Kd.int .i64) 2 w' w.heap.size (fun _=>True) u4 x4_1)∧Aside0 (Below w.heap.size w w'))
    case atStart=>exact ⟨(0),(true),(0),rs,rs,rs,H',⟨Nat.le_refl _⟩,⟨aR (HO_4.z)⟩,⟨bl⟩⟩
    case round =>
     clear H'
     obtain ⟨x6_2,x7_2,x8_2,rfl,rfl,rfl,HA,HK2,HO_4,HB⟩:=hrel
     cases gk with
     | zero=>exact absurd HA.z (by simp [F27.l1])
     | succ k2 =>
      have H:=HA.z
      clear HA
      simp only [F27.l1] at H
      replace H:=iC H;obtain ⟨c9b0,H⟩|⟨c9b0,H⟩:=H
      case inl =>
       (first|rw [c9b0]|(simp only [i64_w,i32_w];rw [c9b0])|skip)
       have H':=k0 H
       clear H
       go_wp2
       go_meet
       case rel=>exact ⟨_,(x6_2),(x7_2),rs,rs,(by first|exact H'|(rw [hji13];exact H')),⟨by have:=HK1.z;have:=HK2.z;first|omega|exact Nat.le_refl _⟩,⟨aR (HO_4.z)⟩,⟨bl⟩⟩
      (first|rw [c9b0]|(simp only [i64_w,i32_w];rw [c9b0])|skip)
      cases x7_2
      case false =>
       replace H:=iF H
       have H':=k0 H
       clear H
       go_wp2
       go_meet
       case rel=>exact ⟨_,(x6_2),(false),rs,rs,(by first|exact H'|(rw [hji13];exact H')),⟨by have:=HK1.z;have:=HK2.z;first|omega|exact Nat.le_refl _⟩,⟨aR (HO_4.z)⟩,⟨bl⟩⟩
      replace H:=iT H
      replace H:=iS H;obtain ⟨c11,H⟩:=H
      have c11b0:=decide_eq_true c11
      clear c11
      replace H:=iS H;obtain ⟨c12,H⟩:=H
      have c12b0:=decide_eq_true c12
      clear c12
      obtain ⟨ji13,hji13⟩:∃ j_:Int,(wrap64 ((wrap64 (x5_1 - x8_2)) - 1))=j_:=⟨_,rfl⟩
      replace H:(if 0≤(ji13) then (if (ji13) < (l0.length:Int) then ((F72.f k2 x6_2 (rd x4_1 x8_2) (rd l0 (ji13))).bind fun bt110=>(F27.l1 k2 l0 x4_1 x5_1 bt110.1 bt110.2 (wrap64 (x8_2+1)))) else (none)) else (none))=some (r1,r2):=by first|(rw [hji13] at H;exact H)|(simp only [hji13] at H ⊢;exact H)
      have hji13w:(IntKind.i64.wrap ((wrap64 (x5_1 - x8_2)) - 1))=ji13:=(i64_w _).trans hji13
      replace H:=iS H;obtain ⟨c14,H⟩:=H
      have c14b0:=decide_eq_true c14
      clear c14
      replace H:=iS H;obtain ⟨c15,H⟩:=H
      have c15b0:=decide_eq_true c15
      clear c15
      replace H:=bS H;obtain ⟨⟨t110,t111⟩,A16,H⟩:=H
      dsimp only at H
      have H':=k0 H
      clear H
      try go_wp2
      replace HO_4:=k0 (Kd.R_drew HO_4.z);replace HB:=k0 (below_drew1 HB.z)
      obtain ⟨Ao18,co18,eo18⟩:=Kd.R_slice HO_4.z
      (first|subst eo18|(injection eo18 with f1_ f2_ f3_;have f4_:=f1_.symm;have f5_:=f3_.symm;clear f1_ f2_ f3_;subst f4_;subst f5_))
      obtain ⟨p108,q108⟩:=iN x8_2 (x4_1.length:Int)
      obtain ⟨ad108,e108,hx108_0⟩:=Kd.at_int (Kd.R_reads' HO_4.z).2.2 x8_2 p108 q108
      cases e108
      replace p108:=eT p108
      replace q108:=eT q108
      have p109:0≤((ji13):Int):=oD
      have q109:(ji13) < (l0.length:Int):=oD
      obtain ⟨ad109,e109,hx109_0⟩:=Kd.at_int HR0.z (ji13) p109 q109
      have hw109_0:=hx109_0
      cases e109
      replace hx109_0:=hbc HB hx109_0
      replace p109:=eT p109
      replace q109:=eT q109
      refine start_ (n:=18) (S:=fun w'=>w'.cell? (ad108.add (x8_2).toNat)=some (.int .i64 (rd x4_1 x8_2))∧w'.cell? (ad109.add ((ji13)).toNat)=some (.int .i64 (rd l0 (ji13)))) (ds:=[]) (ba 18 0) (by kernel_rfl) rfl rfl ⟨hx108_0,(hbc HB hw109_0 :)⟩ (fun hHeld=>?_);refine with_tabW F27.tab11 F27.bits11 (fun HT_ HW_=>?_)
      generalize wr.drew=w17 at HO_4 HB hx108_0 hx109_0 hHeld ⊢
      refine pu 0 (some 28) (ba 18 1) HT_ (h:=?_)
      refine pu 1 (some 29) (ba 18 3) HT_ (h:=?_)
      refine pu 2 (some 30) (ba 18 7) HT_ (h:=?_)
      refine pu 3 (some 31) (ba 18 15) HT_ (h:=?_)
      refine pu 5 (some 33) (ba 18 47) HT_ (h:=?_)
      refine pu 6 (some 34) (ba 18 111) HT_ (h:=?_)
      refine pu 7 (some 35) (ba 18 239) HT_ (h:=?_)
      refine pu 8 (some 36) (ba 18 495) HT_ (h:=?_)
      refine pu 9 (some 37) (ba 18 1007) HT_ (h:=?_)
      refine pu 10 (some 38) (ba 18 2031) HT_ (h:=?_)
      refine zT2 4 (some 32) (ba 18 2047) HT_ HW_ hHeld (h:=?_)
      refine zT2 11 (some 39) (ba 18 4095) HT_ HW_ hHeld (h:=?_)
      refine one_ (i:=12) (N:=some 40) (ba 18 8191) rfl rfl (one_of HT_.out (by kernel_rfl)) (by decide) (fun K hK=>?_)
      refine goes_ Try.func72 (by kernel_rfl) rfl #[.int .i64 x6_2,.int .i64 (rd x4_1 x8_2),.int .i64 (rd l0 (ji13))] (by rfl) rfl rfl (by (try simp only [List.map_toArray,List.map_cons,List.map_nil]);first|done|(simp only [hji13];rfl)|rfl|(simp only [List.length_drop,List.length_take];rfl)) ?_
      with_reducible refine (F72.calls k2 x6_2 (rd x4_1 x8_2) (rd l0 (ji13)) t110 t111 _ A16.z).mono ?_
      rintro e w19 ⟨rfl,hb⟩
      have HS0_:=(hb.cell (World.block_lt_of_cell? _ _ (hHeld.1))).trans (hHeld.1)
      refine ⟨_,rfl,?_⟩
      replace HO_4:=bwR HO_4 hb;replace HB:=bW hb
      refine hK.out _ _ ⟨HS0_,(hbc HB hw109_0 :)⟩ (fun hHeld=>?_)
      clear hK K
      refine norm_ (a':=?_) ?_ ?_
      rotate_left;· show Act.put _ (some 40) _=_;simp only [Act.put,zI,zZ,zS,i64_w,i32_w];rfl
      refine pu 13 (some 27) (ba 18 16383) HT_ (h:=?_)
      refine pu 14 (some 41) (ba 18 32767) HT_ (h:=?_)
      refine pu 15 (some 42) (ba 18 65535) HT_ (h:=?_)
      refine pu 16 (some 6) (ba 18 131071) HT_ (h:=?_)
      refine pu 17 (some 7) (ba 18 262143) HT_ (h:=?_)
      refine done_ (done_of HT_.out (by kernel_rfl)) ?_
      try go_wp2
      first|go_roundg k2|(simp only [← hji13];go_roundg k2)
      case measure=>have:=HK1.z;have:=HK2.z;omega
      case rel=>exact ⟨(t110),(t111),(wrap64 (x8_2+1)),rs,rs,rs,(by first|exact H'|(rw [hji13];exact H')),⟨by have:=HK1.z;have:=HK2.z;omega⟩,⟨aR (HO_4.z)⟩,⟨bl⟩⟩
   case rest =>
    clear HC8
    obtain ⟨kq,x6_7,x7_7,rfl,rfl,HA,HJ7,HO_4,HB⟩:=hcut
    cases kq with
    | zero=>exact absurd HA.z (by simp [F27.j2])
    | succ kj7 =>
     have H:=HA.z
     clear HA
     simp only [F27.j2] at H
     cases x7_7
     case false =>
      replace H:=iF H
      obtain ⟨rfl,rfl⟩:=zSo H
      go_wp2
      go_ret2
      exact ⟨_,eR,by first|exact Kd.R_nil _ _ _ _ _|exact Kd.N_nil _ _ _ _ _|exact Kd.V_nil _ _ _ _ _|exact Kd.Q_nil _ _ _ _ _|exact Kd.S_nil _ _ _ _ _,bl⟩
     replace H:=iT H
     by_cases c21:x5_1=0
     case neg =>
      rw [if_neg c21] at H
      have c21b0:=beq_eq_false_iff_ne.mpr c21
      have c21b1:=bne_iff_ne.mpr c21
      replace H:=iE H;obtain ⟨c22,c22b0,c22b1,H⟩|⟨c22b0,c22b1,H⟩:=H
      case inl =>
       obtain ⟨rfl,rfl⟩:=zSo H
       go_wp2
       go_ret2
       exact ⟨_,eR,by first|exact Kd.R_nil _ _ _ _ _|exact Kd.N_nil _ _ _ _ _|exact Kd.V_nil _ _ _ _ _|exact Kd.Q_nil _ _ _ _ _|exact Kd.S_nil _ _ _ _ _,bl⟩
      replace H:=iS H;obtain ⟨c23,H⟩:=H
      have LMc23:=k0 c23
      clear c23
      obtain ⟨y112,Ny112⟩:=nY (x4_1 ++ [wrap64 (Int.tdiv (wrap64 (-x6_7)) x5_1)]:List Int)
      replace H:(F27.l0 kj7 l0 y112 (wrap64 (x5_1+1)))=some (r1,r2):=rH Ny112.z H
      have H':=k0 H
      clear H
      go_wp2_with (first|((with_reducible refine gate_builtin (b:=.append) (xs:=#[.tmp 51,.tmp 56]) rfl ?_);at_builtin;refine Kd.R_append (Kd.int .i64) (w0:=w) w.heap.size rfl (.tmp 51) (.tmp 56) 27 2 (.int .i64 0) 8 rfl Try.underlying27 info2 rfl (by decide) (by omega) u4 x4_1 (wrap64 (Int.tdiv (wrap64 (-x6_7)) x5_1)) [.int .i64 (wrap64 (Int.tdiv (wrap64 (-x6_7)) x5_1))] (fun _=>True) (fun _=>False) rfl rfl ?aP (fun _ hk=>hk.elim) ?aF ?aO ?aB ?aS ?aL ?_;(case aP=>exact rfl);(case aB=>exact bl);(case aF=>exact (fun _ _=>trivial));(case aO=>exact (aR HO_4.z));(case aS=>exact (below_size bl));(case aL=>have:=LMc23.out;omega);intro v113 w24 ho hb hg hat;rw [← Ny112.z] at ho;replace HB:=k0 hb;have HO114:=k0 ho;clear HO_4;clear ho hb hg hat))
      first|go_roundg kj7|(simp only [← hji13];go_roundg kj7)
      case measure=>have:=HK1.z;have:=HJ7.out;omega
      case rel=>exact ⟨(y112),(wrap64 (x5_1+1)),rs,(by first|exact H'|(rw [hji13];exact H')),⟨by have:=HK1.z;have:=HJ7.out;omega⟩,⟨aR (HO114.z)⟩,⟨bl⟩⟩
     rw [if_pos c21] at H
     exact absurd H (by simp)
end Go.Proofs.Ytgjdbnipcpmhiaa.P
/- Set with little white space, by a program. -/
