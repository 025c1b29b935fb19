/- The functions that one law reaches, each as a Lean function, and that Go's call comes to what it says. Condition of each: that the Lean function answers (is not none). -/
import Derived.Test.YtapnggjaeehpdaaAx0
import Derived.Test.YtapnggjaeehpdaaAx1
import Derived.Test.YtapnggjaeehpdaaAx10
namespace Go.Proofs.Ytapnggjaeehpdaa.A
open Go.RowKit Go.Proofs.bB.dI Go.Proofs.bB.ark Go.Proofs.bB.jd
attribute [local go_sem] max2_int min2_int max_two min_two max_three min_three max_four min_four   -- for this text's walks alone
set_option linter.unusedVariables false
set_option linter.unusedSimpArgs false
/-! ### F56: function 56 -/
mutual
def aU.l0 : Nat → Int → Int → List (List Int) → Int → Int → List (List Int) → Int → Option ((List (List Int)) × Int)
 | 0,_,_,_,_,_,_,_=>none
 | k+1,x1,x2,x8,x9,cY,aqS,dJ=>if dJ < x9 then (if 0≤(wrap64 (2 * x9)) then (if (wrap64 (2 * x9):Int).toNat≤35184372088832 then (aU.l1 k x1 x2 x8 x9 cY aqS dJ (List.replicate (wrap64 (2 * x9):Int).toNat 0) 0) else (none)) else (none)) else (aU.l2 k x1 x9 cY aqS 0)
def aU.l1 : Nat → Int → Int → List (List Int) → Int → Int → List (List Int) → Int → List Int → Int → Option ((List (List Int)) × Int)
 | 0,_,_,_,_,_,_,_,_,_=>none
 | k+1,x1,x2,x8,x9,cY,aqS,dJ,lV,pI=>if pI < x9 then (if 0≤dJ then (if dJ < (x8.length:Int) then (if 0≤pI then (if pI < ((ah x8 dJ).length:Int) then ((qz.f x1 (wrap64 ((wrap64 (-x2)) * (rd (ah x8 dJ) pI)))).bind fun t113=>(if pI < (lV.length:Int) then (aU.l1 k x1 x2 x8 x9 cY aqS dJ (lV.set (pI:Int).toNat t113) (wrap64 (pI+1))) else (none))) else (none)) else (none)) else (none)) else (none)) else (if 0≤dJ then (if dJ < (lV.length:Int) then (if x1=0 then (none) else (if 0≤(wrap64 (x9+dJ)) then (if (wrap64 (x9+dJ)) < (lV.length:Int) then (if aqS.length < 5864062014805 then (aU.l0 k x1 x2 x8 x9 cY (aqS ++ [((lV.set (dJ:Int).toNat (Int.tmod (wrap64 ((rd lV dJ)+1)) x1)).set ((wrap64 (x9+dJ)):Int).toNat 1)]) (wrap64 (dJ+1))) else (none)) else (none)) else (none))) else (none)) else (none))
def aU.l2 : Nat → Int → Int → Int → List (List Int) → Int → Option ((List (List Int)) × Int)
 | 0,_,_,_,_,_=>none
 | k+1,x1,x9,cY,aqS,b7=>if b7 < x9 then (aU.l3 k x1 x9 cY aqS b7 b7) else (aU.l7 k x9 cY aqS (([]:List (List Int))) 0)
def aU.j4 : Nat → Int → Int → Int → List (List Int) → Int → Int → Option ((List (List Int)) × Int)
 | 0,_,_,_,_,_,_=>none
 | k+1,x1,x9,cY,aqS,b7,ey=>if ey=x9 then (some (([]:List (List Int)),0)) else (if ey=b7 then (aU.j5 k x1 x9 cY aqS b7) else (if 0≤ey then (if ey < (aqS.length:Int) then (if 0≤b7 then (if b7 < (aqS.length:Int) then ((qz.f x1 (wrap64 (-cY))).bind fun t126=>(aU.j5 k x1 x9 t126 (swp aqS ey b7) b7)) else (none)) else (none)) else (none)) else (none)))
def aU.j5 : Nat → Int → Int → Int → List (List Int) → Int → Option ((List (List Int)) × Int)
 | 0,_,_,_,_,_=>none
 | k+1,x1,x9,cY,aqS,b7=>if 0≤b7 then (if b7 < (aqS.length:Int) then (if b7 < ((ah aqS b7).length:Int) then (if x1=0 then (none) else ((pN.f k x1 (rd (ah aqS b7) b7)).bind fun t131=>(aU.l4 k x1 x9 (Int.tmod (wrap64 (cY * (rd (ah aqS b7) b7))) x1) aqS b7 t131 0))) else (none)) else (none)) else (none)
def aU.l4 : Nat → Int → Int → Int → List (List Int) → Int → Int → Int → Option ((List (List Int)) × Int)
 | 0,_,_,_,_,_,_,_=>none
 | k+1,x1,x9,cY,aqS,b7,tQ,ji=>if ji < (wrap64 (2 * x9)) then (if 0≤b7 then (if b7 < (aqS.length:Int) then (if 0≤ji then (if ji < ((ah aqS b7).length:Int) then (if x1=0 then (none) else (aU.l4 k x1 x9 cY (aqS.set (b7:Int).toNat ((ah aqS b7).set (ji:Int).toNat (Int.tmod (wrap64 ((rd (ah aqS b7) ji) * tQ)) x1))) b7 tQ (wrap64 (ji+1)))) else (none)) else (none)) else (none)) else (none)) else (aU.l5 k x1 x9 cY aqS b7 0)
def aU.l5 : Nat → Int → Int → Int → List (List Int) → Int → Int → Option ((List (List Int)) × Int)
 | 0,_,_,_,_,_,_=>none
 | k+1,x1,x9,cY,aqS,b7,lA=>if lA < x9 then (if 0≤lA then (if lA < (aqS.length:Int) then (if 0≤b7 then (if b7 < ((ah aqS lA).length:Int) then (aU.l6 k x1 x9 cY aqS b7 lA (rd (ah aqS lA) b7) 0) else (none)) else (none)) else (none)) else (none)) else (aU.l2 k x1 x9 cY aqS (wrap64 (b7+1)))
def aU.l6 : Nat → Int → Int → Int → List (List Int) → Int → Int → Int → Int → Option ((List (List Int)) × Int)
 | 0,_,_,_,_,_,_,_,_=>none
 | k+1,x1,x9,cY,aqS,b7,lA,ke,lB=>if lB < (wrap64 (2 * x9)) then (if lA=b7 then (aU.l5 k x1 x9 cY aqS b7 (wrap64 (lA+1))) else (if 0≤lA then (if lA < (aqS.length:Int) then (if 0≤lB then (if lB < ((ah aqS lA).length:Int) then (if 0≤b7 then (if b7 < (aqS.length:Int) then (if lB < ((ah aqS b7).length:Int) then ((qz.f x1 (wrap64 ((rd (ah aqS lA) lB) - (wrap64 (ke * (rd (ah aqS b7) lB)))))).bind fun t143=>(aU.l6 k x1 x9 cY (aqS.set (lA:Int).toNat ((ah aqS lA).set (lB:Int).toNat t143)) b7 lA ke (wrap64 (lB+1)))) else (none)) else (none)) else (none)) else (none)) else (none)) else (none)) else (none))) else (aU.l5 k x1 x9 cY aqS b7 (wrap64 (lA+1)))
def aU.l3 : Nat → Int → Int → Int → List (List Int) → Int → Int → Option ((List (List Int)) × Int)
 | 0,_,_,_,_,_,_=>none
 | k+1,x1,x9,cY,aqS,b7,ey=>if ey < x9 then (if 0≤ey then (if ey < (aqS.length:Int) then (if 0≤b7 then (if b7 < ((ah aqS ey).length:Int) then (if (rd (ah aqS ey) b7)=0 then (aU.l3 k x1 x9 cY aqS b7 (wrap64 (ey+1))) else (aU.j4 k x1 x9 cY aqS b7 ey)) else (none)) else (none)) else (none)) else (none)) else (aU.j4 k x1 x9 cY aqS b7 ey)
def aU.l7 : Nat → Int → Int → List (List Int) → List (List Int) → Int → Option ((List (List Int)) × Int)
 | 0,_,_,_,_,_=>none
 | k+1,x9,cY,aqS,asY,xj=>if xj < x9 then (if 0≤xj then (if xj < (aqS.length:Int) then (if 0≤x9 then (if x9≤((ah aqS xj).length:Int) then ((nQ.f ((ah aqS xj).drop (x9:Int).toNat)).bind fun t155=>(if asY.length < 5864062014805 then (aU.l7 k x9 cY aqS (asY ++ [t155]) (wrap64 (xj+1))) else (none))) else (none)) else (none)) else (none)) else (none)) else (some (asY,cY))
end
def aU.f (k:Nat) (ag:Int) (af:List (List Int)) (a1:Int) (a2:Int):Option ((List (List Int)) × Int):=(gu.f k ag af).bind fun t102=>(if a1=0 then (none) else (aU.l0 k a1 a2 t102 (wrap64 (2 * (af.length:Int))) ((1:Int) % a1) (([]:List (List Int))) 0))
def aU.T1:Bool × List (List Nat × List Nat):=(true,[([],[]),([0],[0]),([],[]),([2],[2]),([3],[3]),([4],[4]),([],[]),([6],[6]),([1,1,0,1],[1]),([5,8,0,1,2,3,4,5,8],[5]),([7,9,0,1,2,3,4,5,6,7,8,9],[7])])
def aU.B1:List Nat:=[0,1,0,4,12,28,0,64,3,319,1023]
theorem aU.Ov:eH .any (opsOf Try.f56 1)=aU.T1:=by kernel_rfl
theorem aU.Li:iL aU.T1.2 aU.B1=true:=by kernel_rfl
def aU.Rs:Bool × List (List Nat × List Nat):=(true,[([],[]),([],[]),([],[]),([],[]),([],[]),([3,4],[3,4]),([5],[5]),([],[]),([],[]),([],[]),([8,9],[8,9]),([10],[10]),([],[]),([11,12],[11,12]),([13],[13]),([7,14],[7,14]),([6,15],[6,15]),([2,16],[2,16]),([0,1,0,1,2,3,4,5,6,7,8,9,10,11,12,13,14,15,16,17],[0,1]),([18,17,17,0,1,2,3,4,5,6,7,8,9,10,11,12,13,14,15,16,17],[17,18])])
def aU.Yv:List Nat:=[0,0,0,0,0,24,56,0,0,0,768,1792,0,7936,16128,32640,65528,131068,262143,524287]
theorem aU.ajg:eH .any (opsOf Try.f56 42)=aU.Rs:=by kernel_rfl
theorem aU.ab1:iL aU.Rs.2 aU.Yv=true:=by kernel_rfl
set_option maxHeartbeats 8000000 in
set_option maxRecDepth 100000 in
theorem aU.calls (k : Nat) (ag : Int) (az : Option Addr) (ay : Nat) (af : List (List Int)) (a1 : Int) (a2 : Int) (r1 : List (List Int)) (r2 : Int) (w : World) (aqO : Kd.C (Kd.slice 2 (Kd.int .i64)) w az af.length af) (bG : af.length ≤ ay) (h : aU.f k ag af a1 a2 = some (r1, r2)) :
  Calls Try.prog 56 #[.agg #[.int .i64 ag,.slice az af.length ay],.int .i64 a1,.int .i64 a2] w fun e w'=>∃ cR:Value,e=.returned (.tuple #[cR,.int .i64 r2])∧Kd.S (Kd.slice 2 (Kd.int .i64)) 29 w' w.heap.size (fun _=>True) cR r1∧Below w.heap.size w w':=by
 have eE:=Try.underlying26
 have aW:=k0 aqO
 have bh:=k0 bG
 clear aqO bG
 have HB:=k0 (Below.refl w.heap.size w)
 unfold aU.f at h
 have H:=h
 clear h
 replace H:=bS H;obtain ⟨t102,A4,H⟩:=H
 by_cases c5:a1=0
 case neg =>
  rw [if_neg c5] at H
  have gD:=beq_eq_false_iff_ne.mpr c5
  have arP:=bne_iff_ne.mpr c5
  obtain ⟨Ge,zJ⟩:=nY (([]:List (List Int)):List (List Int))
  replace H:(aU.l0 k a1 a2 t102 (wrap64 (2 * (af.length:Int))) ((1:Int) % a1) Ge 0)=some (r1,r2):=rH zJ.z H
  have H':=k0 H
  clear H
  go_enter Try.func56,Try.ntmps56
  try go_wp2_with (first|(refine aqI (N:=3) rfl ?_;refine cz 3 #[.int .i64 ag,.slice az af.length ay] 26 bl ?_;intro aA w6 aa aqF HB;have aqR:=aqF))
  replace aa:=k0 (cJ aa.z);replace HB:=k0 (aqW HB.z)
  refine gz (n:=11) (S:=fun w'=>w'.cell? ⟨aA,0,none⟩=some (.int .i64 ag)∧w'.cell? ⟨aA,1,none⟩=some (.slice az af.length ay)) (ds:=[]) (ba 11 0) (by kernel_rfl) rfl rfl ⟨cH aa,cE aa⟩ (fun hHeld=>?_);refine hJ aU.Ov aU.Li (fun ak bE=>?_)
  generalize w6.drew=w7 at aa HB hHeld ⊢
  refine pu 2 (some 29) (ba 11 4) ak (h:=?_)
  refine pu 6 (some 33) (ba 11 68) ak (h:=?_)
  refine pu 7 (some 34) (ba 11 196) ak (h:=?_)
  refine ta 0 (some 27) (ba 11 197) ak bE hHeld (hy:=Or.inl ⟨by rfl,by rintro w' ⟨s0,s1⟩;go_simp;with_reducible rfl⟩) (h:=?_)
  refine ta 3 (some 30) (ba 11 205) ak bE hHeld (hy:=Or.inl ⟨by rfl,by rintro w' ⟨s0,s1⟩;go_simp;with_reducible rfl⟩) (h:=?_)
  refine pu 4 (some 31) (ba 11 221) ak (h:=?_)
  refine pu 5 (some 32) (ba 11 253) ak (h:=?_)
  refine eG (i:=1) (N:=some 28) (ba 11 255) rfl rfl (dU ak.out (by kernel_rfl)) (by decide) (fun K hK=>?_)
  refine iy Try.func70 (by kernel_rfl) rfl #[.agg #[.int .i64 ag,.slice az af.length ay]] (by rfl) rfl rfl gm ?_
  with_reducible refine (gu.calls k ag _ _ af t102 _ ?aq ?au A4.z).mono ?_
  (case aq=>exact aC (Kd.aqN aW.z HB.z))
  (case au=>exact bh.z)
  rintro e w8 ⟨ary,rfl,aD,hb⟩
  refine ⟨_,rfl,?_⟩
  have bU:=k0 (Kd.fT aD (aqG bl));replace aa:=kB aa hb;replace HB:=bW hb
  refine hK.out _ _ ⟨cH aa,cE aa⟩ (fun hHeld=>?_)
  clear hK K
  refine eV (a':=?_) ?_ ?_
  rotate_left;· show Act.put _ (some 28) _=_;simp only [Act.put,zI,zZ,zS,bJ,ck];rfl
  refine pu 8 (some 8) (ba 11 511) ak (h:=?_)
  refine pu 9 (some 9) (ba 11 1023) ak (h:=?_)
  refine pu 10 (some 10) (ba 11 2047) ak (h:=?_)
  refine gx (gZ ak.out (by kernel_rfl)) ?_
  try go_wp2_with (first|(refine aqI (N:=35) rfl ?_;refine Kd.zP (Kd.slice 2 (Kd.int .i64)) _ 29 ?hg (N:=35) ?hd (xs:=([]:List (List Int))) (inner:=[]) (ok:=fun _=>True) (bw:=fun _=>True) ?hr ?hp (fun _ hk=>hk) trivial (Below.refl _ _) (Nat.le_refl _) (by simp) ?_;(case hd=>rfl);(case hg=>rfl);(case hr=>first|(go_simp;done)|(go_simp;rfl));(case hp=>exact (aH.none _ _));intro CS w9 jP hb bH bI;clear bH bI;(first|rw [← zJ.z] at jP|(simp only [Int.reduceToNat] at jP;rw [← zJ.z] at jP));have oP:=k0 (Kd.fT (Kd.oX jP (Kd.p9 (aS bU.z))) (aqG bl));replace bU:=iw bU (Kd.nw jP) hb;replace aa:=kB aa hb;replace HB:=bW hb;clear hb jP))
  go_loopg [11,12] k (fun kq v11 asx w'=>∃ (bu:List (List Int)) (lu:List (List Int)) (bN:Int),asx=.int .i64 bN∧ai (aU.l0 kq a1 a2 bu (wrap64 (2 * (af.length:Int))) ((1:Int) % a1) lu bN=some (r1,r2))∧ai (kq≤k)∧ai (Kd.S (Kd.slice 2 (Kd.int .i64)) 29 w' w.heap.size (fun k_=>some k_ ≠ (v11:Value).ownBlock) ary bu)∧ai (Kd.S (Kd.slice 2 (Kd.int .i64)) 29 w' w.heap.size (fun k_=>some k_ ≠ (ary:Value).ownBlock) v11 lu)∧ai (w'.heap[aA]?=some (sO ag az af ay 26))∧ai (Below w.heap.size w w'))
  case atStart=>exact ⟨(t102),(Ge),(0),rs,H',⟨Nat.le_refl _⟩,⟨aS (Kd.b6 bU.z (fun _ hk=>hk.2))⟩,⟨aS (Kd.b6 oP.z (fun _ hk=>hk.2))⟩,⟨bk⟩,⟨bl⟩⟩
  case round =>
   clear H'
   obtain ⟨bu,lu,bN,rfl,HA,aI,aqD,bx,aa,HB⟩:=hrel
   cases gk with
   | zero=>exact absurd HA.z (by simp [aU.l0])
   | succ k1 =>
    have H:=HA.z
    clear HA
    simp only [aU.l0] at H
    replace H:=iC H;obtain ⟨jy,H⟩|⟨jy,H⟩:=H
    case inl =>
     have H':=k0 H
     clear H
     go_wp2
     go_loopg [10,15] k1 (fun kq v10 OI w'=>∃ (rM:Int) (aqY:List (List Int)) (bO:Int),v10=.int .i64 rM∧OI=.int .i64 bO∧ai (aU.l2 kq a1 (wrap64 (2 * (af.length:Int))) rM aqY bO=some (r1,r2))∧ai (kq≤k1)∧ai (Kd.S (Kd.slice 2 (Kd.int .i64)) 29 w' w.heap.size (fun _=>True) u11 aqY)∧ai (w'.heap[aA]?=some (sO ag az af ay 26))∧ai (Below w.heap.size w w'))
     case atStart=>exact ⟨(((1:Int) % a1)),(lu),(0),rs,rs,H',⟨Nat.le_refl _⟩,⟨aS (Kd.b6 bx.z (fun _ hk=>trivial))⟩,⟨bk⟩,⟨bl⟩⟩
     case round =>
      clear H'
      obtain ⟨rM,aqY,bO,rfl,rfl,HA,aqL,bx,aa,HB⟩:=hrel
      cases gk with
      | zero=>exact absurd HA.z (by simp [aU.l2])
      | succ k2 =>
       have H:=HA.z
       clear HA
       simp only [aU.l2] at H
       replace H:=iC H;obtain ⟨asA,H⟩|⟨asA,H⟩:=H
       case inl =>
        obtain ⟨XA,K3⟩:=nY (([]:List (List Int)):List (List Int))
        replace H:(aU.l7 k2 (wrap64 (2 * (af.length:Int))) rM aqY XA 0)=some (r1,r2):=rH K3.z H
        have H':=k0 H
        clear H
        go_wp2_with (first|(refine aqI (N:=216) rfl ?_;refine Kd.zP (Kd.slice 2 (Kd.int .i64)) _ 29 ?hg (N:=216) ?hd (xs:=([]:List (List Int))) (inner:=[]) (ok:=fun _=>True) (bw:=fun _=>True) ?hr ?hp (fun _ hk=>hk) trivial (Below.refl _ _) (Nat.le_refl _) (by simp) ?_;(case hd=>rfl);(case hg=>rfl);(case hr=>first|(go_simp;done)|(go_simp;rfl));(case hp=>exact (aH.none _ _));intro apu ap9 Cm hb bH bI;clear bH bI;(first|rw [← K3.z] at Cm|(simp only [Int.reduceToNat] at Cm;rw [← K3.z] at Cm));have ZA:=k0 (Kd.fT (Kd.oX Cm (Kd.p9 (aS bx.z))) (aqG bl));replace bx:=iw bx (Kd.nw Cm) hb;replace aa:=kB aa hb;replace HB:=bW hb;clear hb Cm))
        go_loopg [25,26] k2 (fun kq Jc v26 w'=>∃ (xh:List (List Int)) (mo:Int),v26=.int .i64 mo∧ai (aU.l7 kq (wrap64 (2 * (af.length:Int))) rM aqY xh mo=some (r1,r2))∧ai (kq≤k2)∧ai (Kd.S (Kd.slice 2 (Kd.int .i64)) 29 w' w.heap.size (fun k_=>some k_ ≠ (Jc:Value).ownBlock) u11 aqY)∧ai (Kd.S (Kd.slice 2 (Kd.int .i64)) 29 w' w.heap.size (fun k_=>some k_ ≠ (u11:Value).ownBlock) Jc xh)∧ai (w'.heap[aA]?=some (sO ag az af ay 26))∧ai (Below w.heap.size w w'))
        case atStart=>exact ⟨(XA),(0),rs,H',⟨Nat.le_refl _⟩,⟨aS (Kd.b6 bx.z (fun _ hk=>hk.2))⟩,⟨aS (Kd.b6 ZA.z (fun _ hk=>hk.2))⟩,⟨bk⟩,⟨bl⟩⟩
        case round =>
         clear H'
         obtain ⟨xh,mo,rfl,HA,dR,bx,xI,aa,HB⟩:=hrel
         cases gk with
         | zero=>exact absurd HA.z (by simp [aU.l7])
         | succ k3 =>
          have H:=HA.z
          clear HA
          simp only [aU.l7] at H
          replace H:=iC H;obtain ⟨Lr,H⟩|⟨Lr,H⟩:=H
          case inl =>
           simp only [Option.some.injEq,Prod.mk.injEq] at H
           obtain ⟨rfl,rfl⟩:=H
           go_wp2
           go_ret2
           exact ⟨_,eR,aS (Kd.b6 xI.z (fun _ hk=>trivial)),bl⟩
          replace H:=iS H;obtain ⟨c103,H⟩:=H
          have RS:=decide_eq_true c103
          clear c103
          replace H:=iS H;obtain ⟨c104,H⟩:=H
          have RT:=decide_eq_true c104
          clear c104
          obtain ⟨pn,jf⟩:∃ j_:Int,(wrap64 (2 * (af.length:Int)))=j_:=⟨_,rfl⟩
          replace H:(if 0≤(pn) then (if (pn)≤((ah aqY mo).length:Int) then ((nQ.f ((ah aqY mo).drop ((pn):Int).toNat)).bind fun t155=>(if xh.length < 5864062014805 then (aU.l7 k3 (pn) rM aqY (xh ++ [t155]) (wrap64 (mo+1))) else (none))) else (none)) else (none))=some (r1,r2):=by first|(rw [jf] at H;exact H)|(simp only [jf] at H ⊢;exact H)
          (try rw [jf] at jy)
          (try rw [jf] at asA)
          (try rw [jf] at Lr)
          have aoi:(IntKind.i64.wrap (2 * (af.length:Int)))=pn:=(bJ _).trans jf
          replace H:=iS H;obtain ⟨c106,H⟩:=H
          have amc:=eq_true c106
          have amd:=decide_eq_true c106
          clear c106
          replace H:=iS H;obtain ⟨c107,H⟩:=H
          have ame:=eq_true c107
          have amf:=decide_eq_true c107
          clear c107
          obtain ⟨pM,um⟩:=nY ((ah aqY mo).drop ((pn):Int).toNat:List Int)
          replace H:((nQ.f pM).bind fun t155=>(if xh.length < 5864062014805 then (aU.l7 k3 (pn) rM aqY (xh ++ [t155]) (wrap64 (mo+1))) else (none)))=some (r1,r2):=rH um.z H
          replace H:=bS H;obtain ⟨t155,XG,H⟩:=H
          replace H:=iS H;obtain ⟨c109,H⟩:=H
          have Z4:=k0 c109
          clear c109
          obtain ⟨XC,QY⟩:=nY (xh ++ [t155]:List (List Int))
          replace H:(aU.l7 k3 (pn) rM aqY XC (wrap64 (mo+1)))=some (r1,r2):=rH QY.z H
          have H':=k0 H
          clear H
          obtain ⟨akj,Ho,rfl⟩:=Kd.dL bx.z
          obtain ⟨IP,I0⟩:=iN mo (aqY.length:Int)
          obtain ⟨G1,Gl,DT,e150,VD,Ve,UR⟩:=cD (Kd.a_ bx.z).2.2 mo IP I0
          cases e150
          obtain ⟨am4,afr,ae9,T2⟩:=Kd.aq9 bx.z [] mo IP (by first|exact I0|exact oD|(have e_:=(Kd.a_ bx.z).1;omega))
          obtain ⟨apU,rfl,Mi⟩:=ae9
          have Fq:=T2 0 _ rfl
          rw [Nat.add_zero,show ((Kd.slice 2 (Kd.int .i64))).sz=1 from rfl,Nat.mul_one] at Fq
          replace Fq:=Option.some.inj (Fq.symm.trans VD)
          rw [Fq] at Mi
          have Dh:=k0 (show Kd.R (Kd.int .i64) 2 _ _ _ _ (ah aqY mo) from Mi)
          clear Fq Mi
          have Qv:=k0 VD
          clear T2 afr
          have Dm:=k0 UR
          have Zj:=k0 Ve
          clear UR Ve
          replace IP:=eT IP
          replace I0:=eT I0
          have kA:((pn):Int)≤(((ah aqY mo).length:Int):Int):=oD
          obtain ⟨i0111,Uu,_,Vt,_⟩:=info_parts lS
          have M6:(ah aqY mo).length≤DT:=Zj.z
          have Tu:Kd.C (Kd.int .i64) _ Gl (ah aqY mo).length (ah aqY mo):=(by repeat (first|(with_reducible exact Dm.z)|(with_reducible refine Kd.fP ?_ _)|(with_reducible refine Kd.fQ ?_ _)|(with_reducible refine Kd.fk ?_)|exact Dm.z))
          have ah6:(0:Int)≤((pn):Int):=oD
          have afB:=Ht (P:=Try.prog) 29 2 .i64 Try.underlying29 Uu 1 Vt Gl (ah aqY mo).length DT (pn) ah6 kA
          have E5:=Kd.C7 (m:=((pn):Int).toNat) (c:=DT) Tu (by omega) M6
          obtain ⟨O_,hA111⟩:∃ A1,A1=(if DT=((pn):Int).toNat then Gl else (Gl:Option Addr).map (·.add (((pn):Int).toNat * 1))):=⟨_,rfl⟩
          obtain ⟨c111,MD⟩:∃ c1,c1=DT - ((pn):Int).toNat:=⟨_,rfl⟩
          have Ih:pM.length=(ah aqY mo).length - ((pn):Int).toNat:=(by rw [um.z,List.length_drop]<;>omega)
          rw [show (ah aqY mo).drop ((pn):Int).toNat=pM from um.z.symm] at E5
          replace E5:Kd.C (Kd.int .i64) _ O_ pM.length pM:=(by rw [hA111];exact E5)
          rw [← Ih,← hA111,← MD] at afB
          have Dn:=k0 E5
          have Zk:=k0 (show pM.length≤c111 from by rw [Ih,MD];exact Nat.sub_le_sub_right M6 _)
          clear E5 Tu M6 Uu Vt MD
          have alY:=k0 Ih
          have alS:=k0 hA111
          clear Ih hA111
          replace kA:=eT kA
          go_wp2_with (first|(refine aqz (f:=105) rfl ?_;refine gC (some 229) Try.func105 #[.slice O_ pM.length c111] ?_;(with_reducible refine (nQ.calls _ _ pM t155 _ ?aq ?au XG.z).mono ?_);(case aq=>exact aC (by repeat (first|(with_reducible exact Dn.z)|(with_reducible refine Kd.fP ?_ _)|(with_reducible refine Kd.fQ ?_ _)|(with_reducible refine Kd.fk ?_)|exact Dn.z)));(case au=>exact Zk.z);rintro e aqc ⟨apx,rfl,aD,hb⟩;refine ⟨_,rfl,?_⟩;replace bx:=iw bx (Kd.cm aD) hb;replace xI:=iw xI (Kd.cm aD) hb;have GJ:=k0 (Kd.cA (Kd.kS aD (Kd.eZ (aR Dh.z))) (aqG bl));replace Dh:=l_ Dh (Kd.cm aD) hb;replace aa:=kB aa hb;replace Dm:=k0 (Kd.aqN (by repeat (first|(with_reducible exact Dm.z)|(with_reducible refine Kd.fP ?_ _)|(with_reducible refine Kd.fQ ?_ _)|(with_reducible refine Kd.fk ?_)|exact Dm.z)) hb);replace Qv:=k0 (yP hb Qv.z);replace Dn:=k0 (Kd.aqN (by repeat (first|(with_reducible exact Dn.z)|(with_reducible refine Kd.fP ?_ _)|(with_reducible refine Kd.fQ ?_ _)|(with_reducible refine Kd.fk ?_)|exact Dn.z)) hb);replace HB:=bW hb;obtain ⟨Gp,Hp,rfl⟩:=Kd.cy GJ.z)|((with_reducible refine ars (b:=.append) (xs:=#[.tmp 222,.tmp 230]) rfl ?_);at_builtin;refine Kd.asc (Kd.slice 2 (Kd.int .i64)) (w0:=w) w.heap.size rfl (.tmp 222) (.tmp 230) 24 29 (.slice none 0 0) 24 rfl Try.underlying24 o_ rfl (by decide) (by omega) u25 xh t155 [.slice Gp t155.length Hp] (fun k_=>some k_ ≠ (.slice (some G1) aqY.length Ho:Value).ownBlock) (fun k_=>some k_=(.slice Gp t155.length Hp:Value).ownBlock) rfl rfl ?aP (fun k_ aqJ=>((Kd.aqM (ok':=fun k_=>((fun k_=>some k_ ≠ (.slice (some G1) aqY.length Ho:Value).ownBlock)) k_∧some k_ ≠ (u25:Value).ownBlock) (Kd.aq' (Kd.aq' (GJ.z) (Kd.fH bx.z) (by decide)) (Kd.fH xI.z) (by decide)) (fun k_ hk=>⟨hk.1.2,hk.2⟩))).1 k_ aqJ.symm) ?aF ?aO ?aB ?aS ?aL ?_;(case aP=>exact Kd.lD (Kd.aqM (Kd.oV rfl (Kd.aqM (ok':=fun k_=>((fun k_=>some k_ ≠ (.slice (some G1) aqY.length Ho:Value).ownBlock)) k_∧some k_ ≠ (u25:Value).ownBlock) (Kd.aq' (Kd.aq' (GJ.z) (Kd.fH bx.z) (by decide)) (Kd.fH xI.z) (by decide)) (fun k_ hk=>⟨hk.1.2,hk.2⟩))) (fun _ h_=>h_)));(case aB=>exact bl);(case aF=>exact (fun k_ hk=>Kd.fresh' (Kd.p9 (aS bx.z)) k_ hk));(case aO=>exact (aS (Kd.b6 xI.z (fun k_ hk=>⟨hk.1,fun e_=>hk.2 e_⟩))));(case aS=>exact (aqG bl));(case aL=>have:=Z4.out;omega);intro apz aqd ho hb hg bg;rw [← QY.z] at ho;replace bx:=k0 (Kd.mF (ok:=(fun k_=>some k_ ≠ (.slice Gp t155.length Hp:Value).ownBlock)) (aS (Kd.b6 bx.z (fun _ hk=>⟨hk.2,hk.1⟩))) hg bg);replace aa:=k0 (aq2 (aB aa.z) hg (Kd.arl xI.z aa.z (by decide)));replace Dh:=k0 (Kd.arZ (ok:=(fun k_=>some k_ ≠ (.slice (some G1) aqY.length Ho:Value).ownBlock∧some k_ ≠ (.slice Gp t155.length Hp:Value).ownBlock)) (aR (Kd.aqM Dh.z (fun _ hk=>⟨⟨hk.1.2,hk.2⟩,hk.1.1⟩))) hg bg);replace HB:=k0 (hb);have ZB:=k0 (ho);clear xI GJ;clear ho hb hg bg))
          first|go_roundg k3|(simp only [← jf];go_roundg k3)|(simp only [← aru];go_roundg k3)|(simp only [← eD];go_roundg k3)
          case measure=>have:=aI.z;have:=aqL.z;have:=dR.z;omega
          case rel=>exact ⟨(XC),(wrap64 (mo+1)),rs,(by first|exact H'|(rw [jf];exact H')|(rw [aru];exact H')|(rw [eD];exact H')),⟨by have:=aI.z;have:=aqL.z;have:=dR.z;omega⟩,⟨aS (Kd.b6 bx.z (fun _ hk=>hk.2))⟩,⟨aS (ZB.z)⟩,⟨bk⟩,⟨bl⟩⟩
       have Kf:=k0 H
       clear H
       go_upto_block 6 with (fail)
       go_cut [16] (fun as8 wc=>∃ (kq:Nat) (pJ:Int),as8=.int .i64 pJ∧ai (aU.j4 kq a1 (wrap64 (2 * (af.length:Int))) rM aqY bO pJ=some (r1,r2))∧ai (kq≤k2)∧ai (Kd.S (Kd.slice 2 (Kd.int .i64)) 29 wc w.heap.size (fun _=>True) u11 aqY)∧ai (wc.heap[aA]?=some (sO ag az af ay 26))∧ai (Below w.heap.size w wc))
       case first =>
        have H:=Kf.z
        clear Kf
        have H':=k0 H
        clear H
        go_wp2
        go_loopg [16] k2 (fun kq as8 w'=>∃ (qv:Int),as8=.int .i64 qv∧ai (aU.l3 kq a1 (wrap64 (2 * (af.length:Int))) rM aqY bO qv=some (r1,r2))∧ai (kq≤k2)∧ai (Kd.S (Kd.slice 2 (Kd.int .i64)) 29 w' w.heap.size (fun _=>True) u11 aqY)∧ai (w'.heap[aA]?=some (sO ag az af ay 26))∧ai (Below w.heap.size w w'))
        case atStart=>exact ⟨(bO),rs,H',⟨Nat.le_refl _⟩,⟨aS (bx.z)⟩,⟨bk⟩,⟨bl⟩⟩
        case round =>
         clear H'
         obtain ⟨qv,rfl,HA,dR,bx,aa,HB⟩:=hrel
         cases gk with
         | zero=>exact absurd HA.z (by simp [aU.l3])
         | succ k3 =>
          have H:=HA.z
          clear HA
          simp only [aU.l3] at H
          replace H:=iC H;obtain ⟨asB,H⟩|⟨asB,H⟩:=H
          case inl =>
           (first|rw [asB]|(simp only [bJ,ck];rw [asB])|skip)
           have H':=k0 H
           clear H
           go_wp2
           go_meet
           case rel=>exact ⟨_,(qv),rs,(by first|exact H'|(rw [jf];exact H')|(rw [aru];exact H')|(rw [eD];exact H')),⟨by have:=aI.z;have:=aqL.z;have:=dR.z;first|omega|exact Nat.le_refl _⟩,⟨aS (bx.z)⟩,⟨bk⟩,⟨bl⟩⟩
          (first|rw [asB]|(simp only [bJ,ck];rw [asB])|skip)
          replace H:=iS H;obtain ⟨c46,H⟩:=H
          have amy:=decide_eq_true c46
          clear c46
          replace H:=iS H;obtain ⟨c47,H⟩:=H
          have as1:=decide_eq_true c47
          clear c47
          replace H:=iS H;obtain ⟨c48,H⟩:=H
          have R4:=decide_eq_true c48
          clear c48
          replace H:=iS H;obtain ⟨c49,H⟩:=H
          have ac0:=decide_eq_true c49
          clear c49
          replace H:=iE H;obtain ⟨c50,LD,ac1,H⟩|⟨LD,ac1,H⟩:=H
          case inl =>
           have H':=k0 H
           clear H
           obtain ⟨aky,anD,rfl⟩:=Kd.dL bx.z
           obtain ⟨asu,rK⟩:=iN qv (aqY.length:Int)
           obtain ⟨abt,XL,acp,e121,Fx,ES,EK⟩:=cD (Kd.a_ bx.z).2.2 qv asu rK
           cases e121
           obtain ⟨adn,MI,Mv,EB⟩:=Kd.aq9 bx.z [] qv asu (by first|exact rK|exact oD|(have e_:=(Kd.a_ bx.z).1;omega))
           obtain ⟨ajI,rfl,z8⟩:=Mv
           have uU:=EB 0 _ rfl
           rw [Nat.add_zero,show ((Kd.slice 2 (Kd.int .i64))).sz=1 from rfl,Nat.mul_one] at uU
           replace uU:=Option.some.inj (uU.symm.trans Fx)
           rw [uU] at z8
           have Zm:=k0 (show Kd.R (Kd.int .i64) 2 _ _ _ _ (ah aqY qv) from z8)
           clear uU z8
           have ZO:=k0 Fx
           clear EB MI
           have Dk:=k0 EK
           have Zh:=k0 ES
           clear EK ES
           replace asu:=eT asu
           replace rK:=eT rK
           obtain ⟨AD,AO⟩:=iN bO ((ah aqY qv).length:Int)
           obtain ⟨abu,e122,aga⟩:=Kd.bM (by repeat (first|(with_reducible exact Dk.z)|(with_reducible refine Kd.fP ?_ _)|(with_reducible refine Kd.fQ ?_ _)|(with_reducible refine Kd.fk ?_)|exact Dk.z)) bO AD AO
           cases e122
           replace AD:=eT AD
           replace AO:=eT AO
           go_wp2
           go_meet
           case rel=>exact ⟨_,(qv),rs,(by first|exact H'|(rw [jf];exact H')|(rw [aru];exact H')|(rw [eD];exact H')),⟨by have:=aI.z;have:=aqL.z;have:=dR.z;first|omega|exact Nat.le_refl _⟩,⟨aS (bx.z)⟩,⟨bk⟩,⟨bl⟩⟩
          have H':=k0 H
          clear H
          obtain ⟨Bi,Ca,rfl⟩:=Kd.dL bx.z
          obtain ⟨asu,rK⟩:=iN qv (aqY.length:Int)
          obtain ⟨abt,XL,acp,e121,Fx,ES,EK⟩:=cD (Kd.a_ bx.z).2.2 qv asu rK
          cases e121
          obtain ⟨adn,MI,Mv,EB⟩:=Kd.aq9 bx.z [] qv asu (by first|exact rK|exact oD|(have e_:=(Kd.a_ bx.z).1;omega))
          obtain ⟨ajI,rfl,z8⟩:=Mv
          have uU:=EB 0 _ rfl
          rw [Nat.add_zero,show ((Kd.slice 2 (Kd.int .i64))).sz=1 from rfl,Nat.mul_one] at uU
          replace uU:=Option.some.inj (uU.symm.trans Fx)
          rw [uU] at z8
          have Zm:=k0 (show Kd.R (Kd.int .i64) 2 _ _ _ _ (ah aqY qv) from z8)
          clear uU z8
          have ZO:=k0 Fx
          clear EB MI
          have Dk:=k0 EK
          have Zh:=k0 ES
          clear EK ES
          replace asu:=eT asu
          replace rK:=eT rK
          obtain ⟨AD,AO⟩:=iN bO ((ah aqY qv).length:Int)
          obtain ⟨abu,e122,aga⟩:=Kd.bM (by repeat (first|(with_reducible exact Dk.z)|(with_reducible refine Kd.fP ?_ _)|(with_reducible refine Kd.fQ ?_ _)|(with_reducible refine Kd.fk ?_)|exact Dk.z)) bO AD AO
          cases e122
          replace AD:=eT AD
          replace AO:=eT AO
          go_wp2
          first|go_roundg k3|(simp only [← jf];go_roundg k3)|(simp only [← aru];go_roundg k3)|(simp only [← eD];go_roundg k3)
          case measure=>have:=aI.z;have:=aqL.z;have:=dR.z;omega
          case rel=>exact ⟨(wrap64 (qv+1)),rs,(by first|exact H'|(rw [jf];exact H')|(rw [aru];exact H')|(rw [eD];exact H')),⟨by have:=aI.z;have:=aqL.z;have:=dR.z;omega⟩,⟨aS (bx.z)⟩,⟨bk⟩,⟨bl⟩⟩
       case rest =>
        clear Kf
        obtain ⟨kq,pJ,rfl,HA,sU,bx,aa,HB⟩:=hcut
        cases kq with
        | zero=>exact absurd HA.z (by simp [aU.j4])
        | succ VQ =>
         have H:=HA.z
         clear HA
         simp only [aU.j4] at H
         replace H:=iE H;obtain ⟨c53,LF,ac2,H⟩|⟨LF,ac2,H⟩:=H
         case inl =>
          have Ki:=k0 H
          clear H
          go_upto_if 109 with (fail)
          go_cut [10] (fun v10 wc=>∃ (kq:Nat) (vD:Int) (mm:List (List Int)),v10=.int .i64 vD∧ai (aU.j5 kq a1 (wrap64 (2 * (af.length:Int))) vD mm bO=some (r1,r2))∧ai (kq≤VQ)∧ai (Kd.S (Kd.slice 2 (Kd.int .i64)) 29 wc w.heap.size (fun _=>True) u11 mm)∧ai (wc.heap[aA]?=some (sO ag az af ay 26))∧ai (Below w.heap.size w wc))
          case first =>
           have H:=Ki.z
           clear Ki
           replace H:=iE H;obtain ⟨c55,DU,ac3,H⟩|⟨DU,ac3,H⟩:=H
           case inl =>
            (first|rw [DU]|(simp only [bJ,ck];rw [DU])|skip)
            replace H:=iS H;obtain ⟨c56,H⟩:=H
            have amA:=decide_eq_true c56
            clear c56
            replace H:=iS H;obtain ⟨c57,H⟩:=H
            have ac4:=decide_eq_true c57
            clear c57
            replace H:=iS H;obtain ⟨c58,H⟩:=H
            have R5:=decide_eq_true c58
            clear c58
            replace H:=iS H;obtain ⟨c59,H⟩:=H
            have R6:=decide_eq_true c59
            clear c59
            obtain ⟨O3,QJ⟩:=nY (swp aqY pJ bO:List (List Int))
            replace H:((qz.f a1 (wrap64 (-rM))).bind fun t126=>(aU.j5 VQ a1 (wrap64 (2 * (af.length:Int))) t126 O3 bO))=some (r1,r2):=rH QJ.z H
            replace H:=bS H;obtain ⟨t126,Gn,H⟩:=H
            have H':=k0 H
            clear H
            obtain ⟨vG,ux,rfl⟩:=Kd.dL bx.z
            obtain ⟨II,IV⟩:=iN pJ (aqY.length:Int)
            obtain ⟨abv,XM,acq,e123,Nd,U3,UE⟩:=cD (Kd.a_ bx.z).2.2 pJ II IV
            cases e123
            obtain ⟨amS,aff,aeX,TP⟩:=Kd.aq9 bx.z [] pJ II (by first|exact IV|exact oD|(have e_:=(Kd.a_ bx.z).1;omega))
            obtain ⟨apI,rfl,L7⟩:=aeX
            have Fc:=TP 0 _ rfl
            rw [Nat.add_zero,show ((Kd.slice 2 (Kd.int .i64))).sz=1 from rfl,Nat.mul_one] at Fc
            replace Fc:=Option.some.inj (Fc.symm.trans Nd)
            rw [Fc] at L7
            have Zn:=k0 (show Kd.R (Kd.int .i64) 2 _ _ _ _ (ah aqY pJ) from L7)
            clear Fc L7
            have Qu:=k0 Nd
            clear TP aff
            have alI:=k0 UE
            have alf:=k0 U3
            clear UE U3
            replace II:=eT II
            replace IV:=eT IV
            obtain ⟨yJ,yS⟩:=iN bO (aqY.length:Int)
            obtain ⟨BP,XN,acr,e124,yx,U4,UF⟩:=cD (Kd.a_ bx.z).2.2 bO yJ yS
            obtain rfl:abv=BP:=(by injection e124)
            obtain ⟨amT,afg,aeY,TQ⟩:=Kd.aq9 bx.z [] bO yJ (by first|exact yS|exact oD|(have e_:=(Kd.a_ bx.z).1;omega))
            obtain ⟨apJ,rfl,L8⟩:=aeY
            have Fe:=TQ 0 _ rfl
            rw [Nat.add_zero,show ((Kd.slice 2 (Kd.int .i64))).sz=1 from rfl,Nat.mul_one] at Fe
            replace Fe:=Option.some.inj (Fe.symm.trans yx)
            rw [Fe] at L8
            have Zo:=k0 (show Kd.R (Kd.int .i64) 2 _ _ _ _ (ah aqY bO) from L8)
            clear Fe L8
            have GL:=k0 yx
            clear TQ afg
            have alJ:=k0 UF
            have alg:=k0 U4
            clear UF U4
            replace yJ:=eT yJ
            replace yS:=eT yS
            have AK:0≤(pJ:Int):=oD
            have AX:(pJ:Int) < ((aqY.length:Int):Int):=oD
            obtain ⟨gi,Sy,Ej,En,Ml,adz,Dd⟩:=Kd.K_ bx.z (by omega)
            (first|cases Ej|(injection Ej with bC eo ek;(first|subst bC|(injection bC with bC;subst bC));subst ek;clear eo))
            have J3:=k0 En
            have PG:=k0 Dd
            clear En Ml Dd
            (first|simp only [add_plain] at Nd|skip)
            (first|simp only [add_plain] at yx|skip)
            obtain ⟨_,adr,MM,Mt,yf,yh,_,_⟩:=Kd.K9 bx.z [] (pJ:Int) AK AX
            obtain ⟨ajM,rfl,aez⟩:=Mt
            have Aq:=yf 0 _ rfl
            have Ag:=yh 0
            (try simp only [show ((Kd.slice 2 (Kd.int .i64))).sz=1 from rfl,Nat.mul_one,Nat.add_zero] at Aq)
            (try simp only [show ((Kd.slice 2 (Kd.int .i64))).sz=1 from rfl,Nat.mul_one,Nat.add_zero] at Ag)
            clear MM yf yh
            replace AK:=eT AK
            replace AX:=eT AX
            go_wp2_with (first|((with_reducible refine qi (t:=29) (p:=120) rfl ?_);refine qq (t:=29) (p:=120) (v:=?ap5) (w1:=(wc.setCell ⟨gi,(pJ:Int).toNat,none⟩ (.slice XN (ah aqY bO).length acr))) ?hg ?ho ?hn ?hr ?_;(case ho=>rfl);(case hg=>rfl);(case hn=>rfl);(case hr=>first|(go_simp;done)|(go_simp;rfl));intro Ji iz;have M4:=k0 iz;clear iz;have Kt:=Rh bx.z (pJ:Int) (bO:Int) oD (by have h_:(pJ:Int) < ((aqY.length:Int):Int):=oD;first|exact h_|(have e_:=(Kd.a_ bx.z).1;omega)|simpa using h_) oD (by have h_:(bO:Int) < ((aqY.length:Int):Int):=oD;first|exact h_|(have e_:=(Kd.a_ bx.z).1;omega)|simpa using h_) (by first|exact Qu.z|simpa only [add_plain,nA,Nat.mul_one,Nat.zero_add,Nat.add_zero] using Qu.z) (by first|exact GL.z|simpa only [add_plain,nA,Nat.mul_one,Nat.zero_add,Nat.add_zero] using GL.z);obtain ⟨VG,Uh⟩:=Rg bx.z (pJ:Int) (bO:Int) oD (by have h_:(pJ:Int) < ((aqY.length:Int):Int):=oD;first|exact h_|(have e_:=(Kd.a_ bx.z).1;omega)|simpa using h_) oD (by have h_:(bO:Int) < ((aqY.length:Int):Int):=oD;first|exact h_|(have e_:=(Kd.a_ bx.z).1;omega)|simpa using h_) (by first|exact GL.z|simpa only [add_plain,nA,Nat.mul_one,Nat.zero_add,Nat.add_zero] using GL.z))|((with_reducible refine qi (t:=29) (p:=124) rfl ?_);rw [← M4.out] at VG Uh;refine qq (t:=29) (p:=124) (v:=?ap6) (w1:=(Ji.setCell ⟨gi,(bO:Int).toNat,none⟩ (.slice XM (ah aqY pJ).length acq))) ?hg ?ho ?hn ?hr ?_;(case ho=>rfl);(case hg=>rfl);(case hn=>rfl);(case hr=>first|(go_simp;done)|(go_simp;rfl));intro ata hw;rw [M4.out] at hw;have hg:wc.grownBy ata (some gi):=(by rw [hw];exact Kt.2);have gp:Kd.S (Kd.slice 2 (Kd.int .i64)) 29 ata w.heap.size (fun _=>True) (.slice (some ⟨gi,0,none⟩) aqY.length ux) O3:=(by rw [hw,QJ.z];exact Kt.1);clear Kt M4 VG Uh;replace aa:=k0 (aq2 (aB aa.z) hg (Kd.arl bx.z aa.z (by decide)));replace bx:=k0 (gp);replace HB:=k0 ((by rw [hw];exact lZ (lZ HB.z J3.out) J3.out:Below w.heap.size w ata));clear Zn Zo;clear hg hw gp)|(refine aqz (f:=103) rfl ?_;refine gC (some 128) Try.func103 #[.int .i64 a1,.int .i64 (wrap64 (-rM))] ?_;(with_reducible refine (qz.calls a1 (wrap64 (-rM)) t126 _ Gn.z).mono ?_);rintro e w' ⟨rfl,⟨nd,rfl⟩⟩;refine ⟨_,rfl,?_⟩))
            go_meet
            case rel=>exact ⟨_,(t126),(O3),rs,(by first|exact H'|(rw [jf];exact H')|(rw [aru];exact H')|(rw [eD];exact H')),⟨by have:=aI.z;have:=aqL.z;have:=sU.out;first|omega|exact Nat.le_refl _⟩,⟨aS (bx.z)⟩,⟨bk⟩,⟨bl⟩⟩
           (first|rw [DU]|(simp only [bJ,ck];rw [DU])|skip)
           have H':=k0 H
           clear H
           go_wp2
           go_meet
           case rel=>exact ⟨_,(rM),(aqY),rs,(by first|exact H'|(rw [jf];exact H')|(rw [aru];exact H')|(rw [eD];exact H')),⟨by have:=aI.z;have:=aqL.z;have:=sU.out;first|omega|exact Nat.le_refl _⟩,⟨aS (bx.z)⟩,⟨bk⟩,⟨bl⟩⟩
          case rest =>
           clear Ki
           obtain ⟨kq,vD,mm,rfl,HA,vJ,bx,aa,HB⟩:=hcut
           cases kq with
           | zero=>exact absurd HA.z (by simp [aU.j5])
           | succ Nl =>
            have H:=HA.z
            clear HA
            simp only [aU.j5] at H
            replace H:=iS H;obtain ⟨c66,H⟩:=H
            have amB:=decide_eq_true c66
            clear c66
            replace H:=iS H;obtain ⟨c67,H⟩:=H
            have amC:=decide_eq_true c67
            clear c67
            replace H:=iS H;obtain ⟨c68,H⟩:=H
            have amD:=decide_eq_true c68
            clear c68
            by_cases c69:a1=0
            case neg =>
             rw [if_neg c69] at H
             have R8:=beq_eq_false_iff_ne.mpr c69
             have amE:=bne_iff_ne.mpr c69
             replace H:=bS H;obtain ⟨t131,X_,H⟩:=H
             have H':=k0 H
             clear H
             obtain ⟨akC,Hs,rfl⟩:=Kd.dL bx.z
             obtain ⟨yK,yT⟩:=iN bO (mm.length:Int)
             obtain ⟨ar9,aj',aml,e127,yy,U6,UH⟩:=cD (Kd.a_ bx.z).2.2 bO yK yT
             cases e127
             obtain ⟨amU,afh,aeZ,TR⟩:=Kd.aq9 bx.z [] bO yK (by first|exact yT|exact oD|(have e_:=(Kd.a_ bx.z).1;omega))
             obtain ⟨apK,rfl,L9⟩:=aeZ
             have Ff:=TR 0 _ rfl
             rw [Nat.add_zero,show ((Kd.slice 2 (Kd.int .i64))).sz=1 from rfl,Nat.mul_one] at Ff
             replace Ff:=Option.some.inj (Ff.symm.trans yy)
             rw [Ff] at L9
             have alz:=k0 (show Kd.R (Kd.int .i64) 2 _ _ _ _ (ah mm bO) from L9)
             clear Ff L9
             have alN:=k0 yy
             clear TR afh
             have Qp:=k0 UH
             have ali:=k0 U6
             clear UH U6
             replace yK:=eT yK
             replace yT:=eT yT
             obtain ⟨tG,tI⟩:=iN bO ((ah mm bO).length:Int)
             obtain ⟨rC,e128,wW⟩:=Kd.bM (by repeat (first|(with_reducible exact Qp.z)|(with_reducible refine Kd.fP ?_ _)|(with_reducible refine Kd.fQ ?_ _)|(with_reducible refine Kd.fk ?_)|exact Qp.z)) bO tG tI
             cases e128
             replace tG:=eT tG
             replace tI:=eT tI
             obtain ⟨ox,oy⟩:=iN bO (mm.length:Int)
             obtain ⟨BQ,sP,ar_,e129,mQ,uO,uI⟩:=cD (Kd.a_ bx.z).2.2 bO ox oy
             obtain rfl:ar9=BQ:=(by injection e129)
             obtain ⟨Sf,EF,Ex,ye⟩:=Kd.aq9 bx.z [] bO ox (by first|exact oy|exact oD|(have e_:=(Kd.a_ bx.z).1;omega))
             obtain ⟨W6,rfl,uB⟩:=Ex
             have o9:=ye 0 _ rfl
             rw [Nat.add_zero,show ((Kd.slice 2 (Kd.int .i64))).sz=1 from rfl,Nat.mul_one] at o9
             replace o9:=Option.some.inj (o9.symm.trans mQ)
             rw [o9] at uB
             have qA:=k0 (show Kd.R (Kd.int .i64) 2 _ _ _ _ (ah mm bO) from uB)
             clear o9 uB
             have zH:=k0 mQ
             clear ye EF
             have wD:=k0 uI
             have J_:=k0 uO
             clear uI uO
             replace ox:=eT ox
             replace oy:=eT oy
             have bC:=Option.some.inj (yy.symm.trans mQ)
             injection bC with bC eo ek
             subst bC
             subst ek
             clear eo
             obtain ⟨AF,AQ⟩:=iN bO ((ah mm bO).length:Int)
             obtain ⟨GZ,e130,Fy⟩:=Kd.bM (by repeat (first|(with_reducible exact wD.z)|(with_reducible refine Kd.fP ?_ _)|(with_reducible refine Kd.fQ ?_ _)|(with_reducible refine Kd.fk ?_)|exact wD.z)) bO AF AQ
             obtain rfl:rC=GZ:=(by injection e130)
             replace AF:=eT AF
             replace AQ:=eT AQ
             go_wp2_with (first|(refine aqz (f:=104) rfl ?_;refine gC (some 148) Try.func104 #[.int .i64 a1,.int .i64 (rd (ah mm bO) bO)] ?_;(with_reducible refine (pN.calls Nl a1 (rd (ah mm bO) bO) t131 _ X_.z).mono ?_);rintro e w' ⟨rfl,⟨nd,rfl⟩⟩;refine ⟨_,rfl,?_⟩))
             go_loopg [19] Nl (fun kq OK w'=>∃ (mV:List (List Int)) (oF:Int),OK=.int .i64 oF∧ai (aU.l4 kq a1 (wrap64 (2 * (af.length:Int))) (Int.tmod (wrap64 (vD * (rd (ah mm bO) bO))) a1) mV bO t131 oF=some (r1,r2))∧ai (kq≤Nl)∧ai (Kd.S (Kd.slice 2 (Kd.int .i64)) 29 w' w.heap.size (fun _=>True) (.slice (some ar9) mm.length Hs) mV)∧ai (w'.heap[aA]?=some (sO ag az af ay 26))∧ai (Below w.heap.size w w'))
             case atStart=>exact ⟨(mm),(0),rs,H',⟨Nat.le_refl _⟩,⟨aS (bx.z)⟩,⟨bk⟩,⟨bl⟩⟩
             case round =>
              clear H'
              obtain ⟨mV,oF,rfl,HA,jt,bx,aa,HB⟩:=hrel
              have ard:=(Kd.a_ bx.z).1
              rw [ard] at bx
              (try simp only [ard])
              (try simp only [ard] at aa)
              cases gk with
              | zero=>exact absurd HA.z (by simp [aU.l4])
              | succ k5 =>
               have H:=HA.z
               clear HA
               simp only [aU.l4] at H
               by_cases c72:oF < (wrap64 (2 * (wrap64 (2 * (af.length:Int)))))
               case neg =>
                rw [if_neg c72] at H
                have DV:=decide_eq_false c72
                (try simp only [ard] at DV)
                clear c72
                have H':=k0 H
                clear H
                go_wp2
                go_loopg [21] k5 (fun kq v21 w'=>∃ (rN:List (List Int)) (ara:Int),v21=.int .i64 ara∧ai (aU.l5 kq a1 (wrap64 (2 * (af.length:Int))) (Int.tmod (wrap64 (vD * (rd (ah mm bO) bO))) a1) rN bO ara=some (r1,r2))∧ai (kq≤k5)∧ai (Kd.S (Kd.slice 2 (Kd.int .i64)) 29 w' w.heap.size (fun _=>True) (.slice (some ar9) mV.length Hs) rN)∧ai (w'.heap[aA]?=some (sO ag az af ay 26))∧ai (Below w.heap.size w w'))
                case atStart=>exact ⟨(mV),(0),rs,H',⟨Nat.le_refl _⟩,⟨by (try simp only [ard]);(with_reducible repeat (first|apply Kd.iU|apply Kd.iV|apply Kd.gf));exact bx.z⟩,⟨by (try simp only [ard]);exact bk⟩,⟨bl⟩⟩
                case round =>
                 clear H'
                 obtain ⟨rN,ara,rfl,HA,xF,bx,aa,HB⟩:=hrel
                 have jO:=(Kd.a_ bx.z).1
                 rw [jO] at bx
                 (try simp only [jO])
                 (try simp only [jO] at aa)
                 cases gk with
                 | zero=>exact absurd HA.z (by simp [aU.l5])
                 | succ k6 =>
                  have H:=HA.z
                  clear HA
                  simp only [aU.l5] at H
                  by_cases c81:ara < (wrap64 (2 * (af.length:Int)))
                  case neg =>
                   rw [if_neg c81] at H
                   have B7:=decide_eq_false c81
                   (try simp only [ard,jO] at B7)
                   clear c81
                   have H':=k0 H
                   clear H
                   go_wp2
                   (try simp only [← ard,← jO])
                   first|go_roundg k6|(simp only [← jf];go_roundg k6)|(simp only [← aru];go_roundg k6)|(simp only [← eD];go_roundg k6)
                   case measure=>have:=aI.z;have:=aqL.z;have:=sU.out;have:=vJ.out;have:=jt.z;have:=xF.z;omega
                   case rel=>exact ⟨((Int.tmod (wrap64 (vD * (rd (ah mm bO) bO))) a1)),(rN),(wrap64 (bO+1)),rs,rs,(by first|exact H'|(rw [jf];exact H')|(rw [aru];exact H')|(rw [eD];exact H')),⟨by have:=aI.z;have:=aqL.z;have:=sU.out;have:=vJ.out;have:=jt.z;have:=xF.z;omega⟩,⟨by (try simp only [ard]);(try simp only [jO]);(with_reducible repeat (first|apply Kd.iU|apply Kd.iV|apply Kd.gf));exact bx.z⟩,⟨by (try simp only [ard]);(try simp only [jO]);exact bk⟩,⟨bl⟩⟩
                  rw [if_pos c81] at H
                  have B7:=decide_eq_true c81
                  (try simp only [ard,jO] at B7)
                  clear c81
                  replace H:=iS H;obtain ⟨c82,H⟩:=H
                  have amK:=decide_eq_true c82
                  clear c82
                  replace H:=iS H;obtain ⟨c83,H⟩:=H
                  have adf:=decide_eq_true c83
                  (try simp only [ard,jO] at adf)
                  clear c83
                  replace H:=iS H;obtain ⟨c84,H⟩:=H
                  have adg:=decide_eq_true c84
                  clear c84
                  replace H:=iS H;obtain ⟨c85,H⟩:=H
                  have DX:=decide_eq_true c85
                  (try simp only [ard,jO] at DX)
                  clear c85
                  have H':=k0 H
                  clear H
                  obtain ⟨yN,yX⟩:=iN ara (rN.length:Int)
                  obtain ⟨Rx,ake,amo,e137,Ao,Vb,UO⟩:=cD (Kd.a_ bx.z).2.2 ara yN yX
                  obtain rfl:ar9=Rx:=(by injection e137)
                  obtain ⟨am1,afo,ae6,TY⟩:=Kd.aq9 bx.z [] ara yN (by first|exact yX|exact oD|(have e_:=(Kd.a_ bx.z).1;omega))
                  obtain ⟨apR,rfl,Mf⟩:=ae6
                  have Fm:=TY 0 _ rfl
                  rw [Nat.add_zero,show ((Kd.slice 2 (Kd.int .i64))).sz=1 from rfl,Nat.mul_one] at Fm
                  replace Fm:=Option.some.inj (Fm.symm.trans Ao)
                  rw [Fm] at Mf
                  have alB:=k0 (show Kd.R (Kd.int .i64) 2 _ _ _ _ (ah rN ara) from Mf)
                  clear Fm Mf
                  have alP:=k0 Ao
                  clear TY afo
                  have Qr:=k0 UO
                  have alr:=k0 Vb
                  clear UO Vb
                  replace yN:=eT yN
                  replace yX:=eT yX
                  obtain ⟨AG,AR⟩:=iN bO ((ah rN ara).length:Int)
                  obtain ⟨abz,e138,Ie⟩:=Kd.bM (by repeat (first|(with_reducible exact Qr.z)|(with_reducible refine Kd.fP ?_ _)|(with_reducible refine Kd.fQ ?_ _)|(with_reducible refine Kd.fk ?_)|exact Qr.z)) bO AG AR
                  cases e138
                  replace AG:=eT AG
                  replace AR:=eT AR
                  go_wp2
                  go_loopg [23] k6 (fun kq Jb w'=>∃ (arw:List (List Int)) (arz:Int),Jb=.int .i64 arz∧ai (aU.l6 kq a1 (wrap64 (2 * (af.length:Int))) (Int.tmod (wrap64 (vD * (rd (ah mm bO) bO))) a1) arw bO ara (rd (ah rN ara) bO) arz=some (r1,r2))∧ai (kq≤k6)∧ai (Kd.S (Kd.slice 2 (Kd.int .i64)) 29 w' w.heap.size (fun _=>True) (.slice (some ar9) rN.length Hs) arw)∧ai (w'.heap[aA]?=some (sO ag az af ay 26))∧ai (Below w.heap.size w w'))
                  case atStart=>exact ⟨(rN),(0),rs,H',⟨Nat.le_refl _⟩,⟨by (try simp only [ard]);(try simp only [jO]);(with_reducible repeat (first|apply Kd.iU|apply Kd.iV|apply Kd.gf));exact bx.z⟩,⟨by (try simp only [ard]);(try simp only [jO]);exact bk⟩,⟨bl⟩⟩
                  case round =>
                   clear H'
                   obtain ⟨arw,arz,rfl,HA,wz,bx,aa,HB⟩:=hrel
                   have og:=(Kd.a_ bx.z).1
                   rw [og] at bx
                   (try simp only [og])
                   (try simp only [og] at aa)
                   cases gk with
                   | zero=>exact absurd HA.z (by simp [aU.l6])
                   | succ k7 =>
                    have H:=HA.z
                    clear HA
                    simp only [aU.l6] at H
                    by_cases c86:arz < (wrap64 (2 * (wrap64 (2 * (af.length:Int)))))
                    case neg =>
                     rw [if_neg c86] at H
                     have asN:=decide_eq_false c86
                     (try simp only [ard,jO,og] at asN)
                     clear c86
                     have H':=k0 H
                     clear H
                     go_wp2
                     (try simp only [← jO,← og])
                     first|go_roundg k7|(simp only [← jf];go_roundg k7)|(simp only [← aru];go_roundg k7)|(simp only [← eD];go_roundg k7)
                     case measure=>have:=aI.z;have:=aqL.z;have:=sU.out;have:=vJ.out;have:=jt.z;have:=xF.z;have:=wz.z;omega
                     case rel=>exact ⟨(arw),(wrap64 (ara+1)),rs,(by first|exact H'|(rw [jf];exact H')|(rw [aru];exact H')|(rw [eD];exact H')),⟨by have:=aI.z;have:=aqL.z;have:=sU.out;have:=vJ.out;have:=jt.z;have:=xF.z;have:=wz.z;omega⟩,⟨by (try simp only [ard]);(try simp only [jO]);(try simp only [og]);(with_reducible repeat (first|apply Kd.iU|apply Kd.iV|apply Kd.gf));exact bx.z⟩,⟨by (try simp only [ard]);(try simp only [jO]);(try simp only [og]);exact bk⟩,⟨bl⟩⟩
                    rw [if_pos c86] at H
                    have asN:=decide_eq_true c86
                    (try simp only [ard,jO,og] at asN)
                    clear c86
                    replace H:=iE H;obtain ⟨c87,Sb,adh,H⟩|⟨Sb,adh,H⟩:=H
                    case inl =>
                     replace H:=iS H;obtain ⟨c88,H⟩:=H
                     have Sc:=decide_eq_true c88
                     clear c88
                     replace H:=iS H;obtain ⟨c89,H⟩:=H
                     have Hf:=decide_eq_true c89
                     (try simp only [ard,jO,og] at Hf)
                     clear c89
                     replace H:=iS H;obtain ⟨c90,H⟩:=H
                     have Sd:=decide_eq_true c90
                     clear c90
                     replace H:=iS H;obtain ⟨c91,H⟩:=H
                     have LJ:=decide_eq_true c91
                     (try simp only [ard,jO,og] at LJ)
                     clear c91
                     replace H:=iS H;obtain ⟨c92,H⟩:=H
                     have amM:=decide_eq_true c92
                     clear c92
                     replace H:=iS H;obtain ⟨c93,H⟩:=H
                     have adk:=decide_eq_true c93
                     (try simp only [ard,jO,og] at adk)
                     clear c93
                     replace H:=iS H;obtain ⟨c94,H⟩:=H
                     have LK:=decide_eq_true c94
                     (try simp only [ard,jO,og] at LK)
                     clear c94
                     replace H:=bS H;obtain ⟨t143,JM,H⟩:=H
                     obtain ⟨O7,QU⟩:=nY ((ah arw ara).set (arz:Int).toNat t143:List Int)
                     replace H:(aU.l6 k7 a1 (wrap64 (2 * (af.length:Int))) (Int.tmod (wrap64 (vD * (rd (ah mm bO) bO))) a1) (arw.set (ara:Int).toNat O7) bO ara (rd (ah rN ara) bO) (wrap64 (arz+1)))=some (r1,r2):=rH QU.z H
                     obtain ⟨Xz,QV⟩:=nY (arw.set (ara:Int).toNat O7:List (List Int))
                     replace H:(aU.l6 k7 a1 (wrap64 (2 * (af.length:Int))) (Int.tmod (wrap64 (vD * (rd (ah mm bO) bO))) a1) Xz bO ara (rd (ah rN ara) bO) (wrap64 (arz+1)))=some (r1,r2):=rH QV.z H
                     have H':=k0 H
                     clear H
                     obtain ⟨yO,yY⟩:=iN ara (arw.length:Int)
                     obtain ⟨Le,akf,amq,e139,FA,Vc,UP⟩:=cD (Kd.a_ bx.z).2.2 ara yO yY
                     obtain rfl:ar9=Le:=(by injection e139)
                     obtain ⟨am2,afp,ae7,TZ⟩:=Kd.aq9 bx.z [] ara yO (by first|exact yY|exact oD|(have e_:=(Kd.a_ bx.z).1;omega))
                     obtain ⟨apS,rfl,Mg⟩:=ae7
                     have Fo:=TZ 0 _ rfl
                     rw [Nat.add_zero,show ((Kd.slice 2 (Kd.int .i64))).sz=1 from rfl,Nat.mul_one] at Fo
                     replace Fo:=Option.some.inj (Fo.symm.trans FA)
                     rw [Fo] at Mg
                     have Bq:=k0 (show Kd.R (Kd.int .i64) 2 _ _ _ _ (ah arw ara) from Mg)
                     clear Fo Mg
                     have Ds:=k0 FA
                     clear TZ afp
                     have Dl:=k0 UP
                     have als:=k0 Vc
                     clear UP Vc
                     replace yO:=eT yO
                     replace yY:=eT yY
                     try go_wp2
                     replace bx:=k0 (Kd.gf bx.z);replace Bq:=k0 (Kd.fG Bq.z);replace aa:=k0 (cJ aa.z);replace Dl:=k0 (Kd.fk Dl.z);replace Ds:=k0 ((show (wr.drew).cell? _=some _ from Ds.z));replace HB:=k0 (aqW HB.z)
                     obtain ⟨qT,qY⟩:=iN arz ((ah arw ara).length:Int)
                     obtain ⟨zR,e140,su⟩:=Kd.bM (by repeat (first|(with_reducible exact Dl.z)|(with_reducible refine Kd.fP ?_ _)|(with_reducible refine Kd.fQ ?_ _)|(with_reducible refine Kd.fk ?_)|exact Dl.z)) arz qT qY
                     cases e140
                     replace qT:=eT qT
                     replace qY:=eT qY
                     obtain ⟨mj,lq⟩:=iN bO (arw.length:Int)
                     obtain ⟨asJ,JG,DR,e141,lR,uP,uJ⟩:=cD (Kd.a_ bx.z).2.2 bO mj lq
                     obtain rfl:ar9=asJ:=(by injection e141)
                     obtain ⟨LN,Af,Ac,uE⟩:=Kd.aq9 bx.z [] bO mj (by first|exact lq|exact oD|(have e_:=(Kd.a_ bx.z).1;omega))
                     obtain ⟨OQ,rfl,qN⟩:=Ac
                     have arE:=uE 0 _ rfl
                     rw [Nat.add_zero,show ((Kd.slice 2 (Kd.int .i64))).sz=1 from rfl,Nat.mul_one] at arE
                     replace arE:=Option.some.inj (arE.symm.trans lR)
                     rw [arE] at qN
                     have GA:=k0 (show Kd.R (Kd.int .i64) 2 _ _ _ _ (ah arw bO) from qN)
                     clear arE qN
                     have BC:=k0 lR
                     clear uE Af
                     have sW:=k0 uJ
                     have Kb:=k0 uP
                     clear uJ uP
                     replace mj:=eT mj
                     replace lq:=eT lq
                     obtain ⟨qU,qZ⟩:=iN arz ((ah arw bO).length:Int)
                     obtain ⟨BR,e142,FB⟩:=Kd.bM (by repeat (first|(with_reducible exact sW.z)|(with_reducible refine Kd.fP ?_ _)|(with_reducible refine Kd.fQ ?_ _)|(with_reducible refine Kd.fk ?_)|exact sW.z)) arz qU qZ
                     cases e142
                     replace qU:=eT qU
                     replace qZ:=eT qZ
                     refine gz (n:=20) (S:=fun w'=>w'.cell? (zR.add (arz).toNat)=some (.int .i64 (rd (ah arw ara) arz))∧w'.cell? (ar9.add (bO).toNat)=some (.slice (some BR) (ah arw bO).length DR)∧w'.cell? (BR.add (arz).toNat)=some (.int .i64 (rd (ah arw bO) arz))) (ds:=[19]) (ba 20 0) (by kernel_rfl) rfl rfl ⟨su,lR,FB⟩ (fun hHeld=>?_);refine hJ aU.ajg aU.ab1 (fun ak bE=>?_)
                     generalize wr.drew=Xi at bx Bq aa Dl Ds HB GA sW BC su lR FB hHeld ⊢
                     refine pu 0 (some 197) (ba 20 1) ak (h:=?_)
                     refine pu 1 (some 198) (ba 20 3) ak (h:=?_)
                     refine pu 2 (some 199) (ba 20 7) ak (h:=?_)
                     refine pu 3 (some 200) (ba 20 15) ak (h:=?_)
                     refine pu 4 (some 201) (ba 20 31) ak (h:=?_)
                     refine pu 5 (some 202) (ba 20 63) ak (h:=?_)
                     refine pu 7 (some 204) (ba 20 191) ak (h:=?_)
                     refine pu 8 (some 205) (ba 20 447) ak (h:=?_)
                     refine pu 9 (some 206) (ba 20 959) ak (h:=?_)
                     refine pu 10 (some 207) (ba 20 1983) ak (h:=?_)
                     refine pu 12 (some 209) (ba 20 6079) ak (h:=?_)
                     refine ta 6 (some 203) (ba 20 6143) ak bE hHeld (hy:=Or.inl ⟨by rfl,by rintro w' ⟨s0,s1,s2⟩;go_simp;with_reducible rfl⟩) (h:=?_)
                     refine ta 11 (some 208) (ba 20 8191) ak bE hHeld (hy:=Or.inl ⟨by rfl,by rintro w' ⟨s0,s1,s2⟩;go_simp;with_reducible rfl⟩) (h:=?_)
                     refine pu 13 (some 210) (ba 20 16383) ak (h:=?_)
                     refine ta 14 (some 211) (ba 20 32767) ak bE hHeld (hy:=Or.inl ⟨by rfl,by rintro w' ⟨s0,s1,s2⟩;go_simp;with_reducible rfl⟩) (h:=?_)
                     refine pu 15 (some 212) (ba 20 65535) ak (h:=?_)
                     refine pu 16 (some 213) (ba 20 131071) ak (h:=?_)
                     refine eG (i:=17) (N:=some 214) (ba 20 262143) rfl rfl (dU ak.out (by kernel_rfl)) (by decide) (fun K hK=>?_)
                     refine iy Try.func103 (by kernel_rfl) rfl #[.int .i64 a1,.int .i64 (wrap64 ((rd (ah arw ara) arz) - (wrap64 ((rd (ah rN ara) bO) * (rd (ah arw bO) arz)))))] (by rfl) rfl rfl gm ?_
                     with_reducible refine (qz.calls a1 (wrap64 ((rd (ah arw ara) arz) - (wrap64 ((rd (ah rN ara) bO) * (rd (ah arw bO) arz))))) t143 _ JM.z).mono ?_
                     rintro e w' ⟨rfl,⟨nd,rfl⟩⟩
                     refine ⟨_,rfl,?_⟩
                     have NY:0≤(arz:Int):=oD
                     have Of:(arz:Int) < (((ah arw ara).length:Int):Int):=oD
                     obtain ⟨anO,anL,atA,Tq,aeN,ann,P2⟩:=Kd.qG Bq.z (by omega)
                     (first|cases atA|(injection atA with bC eo ek;(first|subst bC|(injection bC with bC;subst bC));subst ek;clear eo))
                     (first|simp only [add_plain] at su|skip)
                     have akM:=k0 Tq
                     have ak9:=k0 P2
                     clear Tq aeN P2
                     (first|simp only [add_plain] at su|skip)
                     obtain ⟨aoX,an7⟩:=Kd.kR 0 Bq.z (arz:Int) NY Of
                     replace NY:=eT NY
                     replace Of:=eT Of
                     have af6:(ara:Int) < (arw.length:Int):=(by have h_:(ara:Int) < ((arw.length:Int):Int):=oD;first|exact h_|(have e_:=(Kd.a_ bx.z).1;omega)|simpa only [List.length_set,List.length_set] using h_)
                     obtain ⟨ao5,am_,afy,aeT,T8,Vm,TJ⟩:=Kd.zO bx.z [] (ara:Int) oD (by first|exact af6|(have e_:=(Kd.a_ bx.z).1;omega))
                     obtain ⟨ap0,rfl,Es⟩:=aeT
                     have Ia:=T8 0 _ rfl
                     rw [Nat.add_zero,show ((Kd.slice 2 (Kd.int .i64))).sz=1 from rfl,Nat.mul_one] at Ia
                     replace Ia:=Option.some.inj (Ia.symm.trans Ds.z)
                     subst Ia
                     clear T8 afy
                     replace Es:=(show Kd.R (Kd.int .i64) 2 _ _ _ _ (ah arw ara) from Es)
                     have Bx:=Kd.ar0 Es (arz:Int) t143
                     have alR:=k0 (r8 Bx.2 Ds.z (z3 (Vm _ (Es.1 _ rfl)).2))
                     rw [← QU.z] at Bx
                     have alH:=k0 Bx.1
                     have KE:=TJ Bx.2 (fun k_ e_=>by injection e_ with e_;subst e_;exact Es.1 _ rfl) (x':=O7) (Kd.lD Bx.1)
                     rw [← QV.z] at KE
                     have ZE:=k0 KE
                     clear Bx KE TJ Vm
                     refine hK.out _ _ ⟨hHeld.1,hHeld.2.1,hHeld.2.2⟩ (fun hHeld=>?_)
                     clear hK K
                     refine eV (a':=?_) ?_ ?_
                     rotate_left;· show Act.put _ (some 214) _=_;simp only [Act.put,zI,zZ,zS,bJ,ck];rfl
                     refine pu 18 (some 215) (ba 20 524287) ak (h:=?_)
                     refine tD (i:=19) (N:=none) (ba 20 1048575) rfl rfl (dU ak.out (by kernel_rfl)) (by decide) (fun K hK=>?_)
                     refine oz (w1:=?_) (by rfl) rfl ?_ ?_
                     rotate_left;· go_simp;rfl
                     refine hK.out _ _ ?_
                     clear hK K
                     refine gx (gZ ak.out (by kernel_rfl)) ?_
                     try go_wp2
                     (try simp only [← og])
                     first|go_roundg k7|(simp only [← jf];go_roundg k7)|(simp only [← aru];go_roundg k7)|(simp only [← eD];go_roundg k7)
                     case measure=>have:=aI.z;have:=aqL.z;have:=sU.out;have:=vJ.out;have:=jt.z;have:=xF.z;have:=wz.z;omega
                     case rel=>exact ⟨(Xz),(wrap64 (arz+1)),rs,(by first|exact H'|(rw [jf];exact H')|(rw [aru];exact H')|(rw [eD];exact H')),⟨by have:=aI.z;have:=aqL.z;have:=sU.out;have:=vJ.out;have:=jt.z;have:=xF.z;have:=wz.z;omega⟩,⟨by (try simp only [ard]);(try simp only [jO]);(try simp only [og]);(with_reducible repeat (first|apply Kd.iU|apply Kd.iV|apply Kd.gf));exact ZE.out⟩,⟨by (try simp only [ard]);(try simp only [jO]);(try simp only [og]);(with_reducible repeat (first|refine arL ?_ _|refine cJ ?_|refine iW ?_ _));refine s7 ?_ (by have h_:=Kd.aro Bq.z aa.z (by decide);intro e_;exact h_ (by rw [e_];rfl)) _;exact bk⟩,⟨aL HB.z⟩⟩
                    have H':=k0 H
                    clear H
                    go_wp2
                    (try simp only [← jO,← og])
                    first|go_roundg k7|(simp only [← jf];go_roundg k7)|(simp only [← aru];go_roundg k7)|(simp only [← eD];go_roundg k7)
                    case measure=>have:=aI.z;have:=aqL.z;have:=sU.out;have:=vJ.out;have:=jt.z;have:=xF.z;have:=wz.z;omega
                    case rel=>exact ⟨(arw),(wrap64 (ara+1)),rs,(by first|exact H'|(rw [jf];exact H')|(rw [aru];exact H')|(rw [eD];exact H')),⟨by have:=aI.z;have:=aqL.z;have:=sU.out;have:=vJ.out;have:=jt.z;have:=xF.z;have:=wz.z;omega⟩,⟨by (try simp only [ard]);(try simp only [jO]);(try simp only [og]);(with_reducible repeat (first|apply Kd.iU|apply Kd.iV|apply Kd.gf));exact bx.z⟩,⟨by (try simp only [ard]);(try simp only [jO]);(try simp only [og]);exact bk⟩,⟨bl⟩⟩
               rw [if_pos c72] at H
               have DV:=decide_eq_true c72
               (try simp only [ard] at DV)
               clear c72
               replace H:=iS H;obtain ⟨c73,H⟩:=H
               have amG:=decide_eq_true c73
               clear c73
               replace H:=iS H;obtain ⟨c74,H⟩:=H
               have ac_:=decide_eq_true c74
               (try simp only [ard] at ac_)
               clear c74
               replace H:=iS H;obtain ⟨c75,H⟩:=H
               have amH:=decide_eq_true c75
               clear c75
               replace H:=iS H;obtain ⟨c76,H⟩:=H
               have DW:=decide_eq_true c76
               (try simp only [ard] at DW)
               clear c76
               by_cases c77:a1=0
               case neg =>
                rw [if_neg c77] at H
                have ada:=beq_eq_false_iff_ne.mpr c77
                have amI:=bne_iff_ne.mpr c77
                obtain ⟨O5,QN⟩:=nY ((ah mV bO).set (oF:Int).toNat (Int.tmod (wrap64 ((rd (ah mV bO) oF) * t131)) a1):List Int)
                replace H:(aU.l4 k5 a1 (wrap64 (2 * (af.length:Int))) (Int.tmod (wrap64 (vD * (rd (ah mm bO) bO))) a1) (mV.set (bO:Int).toNat O5) bO t131 (wrap64 (oF+1)))=some (r1,r2):=rH QN.z H
                obtain ⟨O6,QO⟩:=nY (mV.set (bO:Int).toNat O5:List (List Int))
                replace H:(aU.l4 k5 a1 (wrap64 (2 * (af.length:Int))) (Int.tmod (wrap64 (vD * (rd (ah mm bO) bO))) a1) O6 bO t131 (wrap64 (oF+1)))=some (r1,r2):=rH QO.z H
                have H':=k0 H
                clear H
                obtain ⟨yM,yV⟩:=iN bO (mV.length:Int)
                obtain ⟨G0,aka,acw,e132,Fz,U9,UK⟩:=cD (Kd.a_ bx.z).2.2 bO yM yV
                obtain rfl:ar9=G0:=(by injection e132)
                obtain ⟨amX,afk,ae2,TU⟩:=Kd.aq9 bx.z [] bO yM (by first|exact yV|exact oD|(have e_:=(Kd.a_ bx.z).1;omega))
                obtain ⟨apN,rfl,Mb⟩:=ae2
                have Fi:=TU 0 _ rfl
                rw [Nat.add_zero,show ((Kd.slice 2 (Kd.int .i64))).sz=1 from rfl,Nat.mul_one] at Fi
                replace Fi:=Option.some.inj (Fi.symm.trans Fz)
                rw [Fi] at Mb
                have Gz:=k0 (show Kd.R (Kd.int .i64) 2 _ _ _ _ (ah mV bO) from Mb)
                clear Fi Mb
                have KG:=k0 Fz
                clear TU afk
                have Qq:=k0 UK
                have alm:=k0 U9
                clear UK U9
                replace yM:=eT yM
                replace yV:=eT yV
                obtain ⟨NM,N3⟩:=iN oF ((ah mV bO).length:Int)
                obtain ⟨al8,e133,VB⟩:=Kd.bM (by repeat (first|(with_reducible exact Qq.z)|(with_reducible refine Kd.fP ?_ _)|(with_reducible refine Kd.fQ ?_ _)|(with_reducible refine Kd.fk ?_)|exact Qq.z)) oF NM N3
                cases e133
                replace NM:=eT NM
                replace N3:=eT N3
                have NW:0≤(oF:Int):=oD
                have Od:(oF:Int) < (((ah mV bO).length:Int):Int):=oD
                obtain ⟨Mp,anI,S0,To,aeL,anl,P0⟩:=Kd.qG Gz.z (by omega)
                (first|cases S0|(injection S0 with bC eo ek;(first|subst bC|(injection bC with bC;subst bC));subst ek;clear eo))
                (first|simp only [add_plain] at VB|skip)
                have YV:=k0 To
                have ak8:=k0 P0
                clear To aeL P0
                (first|simp only [add_plain] at VB|skip)
                obtain ⟨aoW,an6⟩:=Kd.kR 0 Gz.z (oF:Int) NW Od
                replace NW:=eT NW
                replace Od:=eT Od
                have af4:(bO:Int) < (mV.length:Int):=(by have h_:(bO:Int) < ((mV.length:Int):Int):=oD;first|exact h_|(have e_:=(Kd.a_ bx.z).1;omega)|simpa only [List.length_set,List.length_set] using h_)
                obtain ⟨ahO,am8,afw,aeR,atF,M1,TH⟩:=Kd.zO bx.z [] (bO:Int) oD (by first|exact af4|(have e_:=(Kd.a_ bx.z).1;omega))
                obtain ⟨apY,rfl,Ep⟩:=aeR
                have H9:=atF 0 _ rfl
                rw [Nat.add_zero,show ((Kd.slice 2 (Kd.int .i64))).sz=1 from rfl,Nat.mul_one] at H9
                replace H9:=Option.some.inj (H9.symm.trans KG.z)
                subst H9
                clear atF afw
                replace Ep:=(show Kd.R (Kd.int .i64) 2 _ _ _ _ (ah mV bO) from Ep)
                have Ku:=Kd.ar0 Ep (oF:Int) (Int.tmod (wrap64 ((rd (ah mV bO) oF) * t131)) a1)
                go_wp2_with (first|((with_reducible refine qi (t:=2) (p:=169) rfl ?_);refine qq (t:=2) (p:=169) (v:=?ap8) (w1:=(wr.setCell ⟨Mp,(oF:Int).toNat,none⟩ (.int .i64 (Int.tmod (wrap64 ((rd (ah mV bO) oF) * t131)) a1)))) ?hg ?ho ?hn ?hr ?_;(case ho=>rfl);(case hg=>rfl);(case hn=>rfl);(case hr=>first|(go_simp;done)|(go_simp;rfl));intro CW hw;have hg:wr.grownBy CW (some Mp):=(by rw [hw];exact Ku.2);have u_:Kd.R (Kd.int .i64) 2 CW w.heap.size ahO (.slice (some ⟨Mp,0,none⟩) (ah mV bO).length acw) O5:=(by rw [hw,QN.z];exact Ku.1);have gp:Kd.S (Kd.slice 2 (Kd.int .i64)) 29 CW w.heap.size (fun _=>True) (.slice (some ar9) mV.length Hs) O6:=(by rw [QO.z];exact TH hg (fun k_ e_=>by injection e_ with e_;subst e_;exact Ep.1 _ rfl) (Kd.lD u_));have uQ:=Kd.aqM u_ M1;clear Ku TH;replace bx:=k0 (gp);replace aa:=k0 (aq2 (aB aa.z) hg (Kd.aro Gz.z aa.z (by decide)));replace KG:=k0 (r8 hg KG.z (z3 (M1 _ (Ep.1 _ rfl)).2));replace HB:=k0 ((by rw [hw];exact lZ (HB.z) YV.out:Below w.heap.size w CW));have alC:=k0 (uQ);have alo:=k0 ((Kd.aqP uQ).2.1);clear Gz;clear hg hw gp u_ uQ M1))
                (try simp only [← ard])
                first|go_roundg k5|(simp only [← jf];go_roundg k5)|(simp only [← aru];go_roundg k5)|(simp only [← eD];go_roundg k5)
                case measure=>have:=aI.z;have:=aqL.z;have:=sU.out;have:=vJ.out;have:=jt.z;omega
                case rel=>exact ⟨(O6),(wrap64 (oF+1)),rs,(by first|exact H'|(rw [jf];exact H')|(rw [aru];exact H')|(rw [eD];exact H')),⟨by have:=aI.z;have:=aqL.z;have:=sU.out;have:=vJ.out;have:=jt.z;omega⟩,⟨by (try simp only [ard]);(with_reducible repeat (first|apply Kd.iU|apply Kd.iV|apply Kd.gf));exact bx.z⟩,⟨by (try simp only [ard]);exact bk⟩,⟨bl⟩⟩
               rw [if_pos c77] at H
               exact absurd H (by simp)
            rw [if_pos c69] at H
            exact absurd H (by simp)
         simp only [Option.some.injEq,Prod.mk.injEq] at H
         obtain ⟨rfl,rfl⟩:=H
         go_wp2
         go_ret2
         exact ⟨_,eR,by first|exact Kd.ase _ _ _ _ _|exact Kd.sX _ _ _ _ _|exact Kd.s6 _ _ _ _ _|exact Kd.sZ _ _ _ _ _|exact Kd.p6 _ _ _ _ _,bl⟩
    obtain ⟨Au,aru⟩:∃ j_:Int,(wrap64 (2 * (wrap64 (2 * (af.length:Int)))))=j_:=⟨_,rfl⟩
    replace H:(if 0≤(Au) then (if (Au:Int).toNat≤35184372088832 then (aU.l1 k1 a1 a2 bu (wrap64 (2 * (af.length:Int))) ((1:Int) % a1) lu bN (List.replicate (Au:Int).toNat 0) 0) else (none)) else (none))=some (r1,r2):=by first|(rw [aru] at H;exact H)|(simp only [aru] at H ⊢;exact H)
    have aok:(IntKind.i64.wrap (2 * (wrap64 (2 * (af.length:Int)))))=Au:=(bJ _).trans aru
    replace H:=iS H;obtain ⟨c13,H⟩:=H
    have arT:=eq_true c13
    have Lw:=decide_eq_true c13
    clear c13
    replace H:=iS H;obtain ⟨c14,H⟩:=H
    have mH:=eq_true c14
    have DS:=decide_eq_true c14
    clear c14
    obtain ⟨pL,vL⟩:=nY (List.replicate (Au:Int).toNat 0:List Int)
    replace H:(aU.l1 k1 a1 a2 bu (wrap64 (2 * (af.length:Int))) ((1:Int) % a1) lu bN pL 0)=some (r1,r2):=rH vL.z H
    have H':=k0 H
    clear H
    go_wp2_with (first|(refine aqI (N:=43) rfl ?_;refine Kd.BI (Kd.int .i64) _ 2 rfl (N:=43) rfl 29 _ _ rfl Au rfl rfl Try.underlying29 (.int .i64 0) 8 lS rfl (by decide) (by omega) 0 (ok:=fun _=>True) (bw:=fun _=>True) rfl (fun _ hk=>hk) trivial oD (Nat.le_trans (Nat.mul_le_mul_right _ (oD:Au.toNat≤35184372088832)) (by omega)) (Below.refl _ _) (Nat.le_refl _) ?_;intro ar1 pH Ak hb bH bI;clear bH bI;(first|rw [← vL.z] at Ak|(simp only [Int.reduceToNat] at Ak;rw [← vL.z] at Ak));replace aqD:=iw aqD (Kd.cm Ak) hb;replace bx:=iw bx (Kd.cm Ak) hb;have kN:=k0 (Kd.cA Ak (aqG bl));replace aa:=kB aa hb;replace HB:=bW hb;clear hb Ak))
    go_loopg [14] k1 (fun kq v14 w'=>∃ (gH:List Int) (qu:Int),v14=.int .i64 qu∧ai (aU.l1 kq a1 a2 bu (wrap64 (2 * (af.length:Int))) ((1:Int) % a1) lu bN gH qu=some (r1,r2))∧ai (kq≤k1)∧ai (Kd.S (Kd.slice 2 (Kd.int .i64)) 29 w' w.heap.size (fun k_=>some k_ ≠ (u11:Value).ownBlock∧some k_ ≠ (ar1:Value).ownBlock) ary bu)∧ai (Kd.S (Kd.slice 2 (Kd.int .i64)) 29 w' w.heap.size (fun k_=>some k_ ≠ (ary:Value).ownBlock∧some k_ ≠ (ar1:Value).ownBlock) u11 lu)∧ai (Kd.R (Kd.int .i64) 2 w' w.heap.size (fun _=>True) ar1 gH)∧ai (w'.heap[aA]?=some (sO ag az af ay 26))∧ai (Below w.heap.size w w'))
    case atStart=>exact ⟨(pL),(0),rs,H',⟨Nat.le_refl _⟩,⟨aS (aqD.z)⟩,⟨aS (bx.z)⟩,⟨aR (kN.z)⟩,⟨bk⟩,⟨bl⟩⟩
    case round =>
     clear H'
     obtain ⟨gH,qu,rfl,HA,aqL,aqD,bx,jI,aa,HB⟩:=hrel
     cases gk with
     | zero=>exact absurd HA.z (by simp [aU.l1])
     | succ k2 =>
      have H:=HA.z
      clear HA
      simp only [aU.l1] at H
      replace H:=iC H;obtain ⟨asL,H⟩|⟨asL,H⟩:=H
      case inl =>
       replace H:=iS H;obtain ⟨c28,H⟩:=H
       have G9:=decide_eq_true c28
       clear c28
       replace H:=iS H;obtain ⟨c29,H⟩:=H
       have G_:=decide_eq_true c29
       clear c29
       by_cases c30:a1=0
       case neg =>
        rw [if_neg c30] at H
        have RZ:=beq_eq_false_iff_ne.mpr c30
        have acV:=bne_iff_ne.mpr c30
        obtain ⟨oH,rZ⟩:=nY (gH.set (bN:Int).toNat (Int.tmod (wrap64 ((rd gH bN)+1)) a1):List Int)
        replace H:(if 0≤(wrap64 ((wrap64 (2 * (af.length:Int)))+bN)) then (if (wrap64 ((wrap64 (2 * (af.length:Int)))+bN)) < (gH.length:Int) then (if lu.length < 5864062014805 then (aU.l0 k2 a1 a2 bu (wrap64 (2 * (af.length:Int))) ((1:Int) % a1) (lu ++ [(oH.set ((wrap64 ((wrap64 (2 * (af.length:Int)))+bN)):Int).toNat 1)]) (wrap64 (bN+1))) else (none)) else (none)) else (none))=some (r1,r2):=rH rZ.z H
        obtain ⟨arF,eD⟩:∃ j_:Int,(wrap64 ((wrap64 (2 * (af.length:Int)))+bN))=j_:=⟨_,rfl⟩
        replace H:(if 0≤(arF) then (if (arF) < (gH.length:Int) then (if lu.length < 5864062014805 then (aU.l0 k2 a1 a2 bu (wrap64 (2 * (af.length:Int))) ((1:Int) % a1) (lu ++ [(oH.set ((arF):Int).toNat 1)]) (wrap64 (bN+1))) else (none)) else (none)) else (none))=some (r1,r2):=by first|(rw [eD] at H;exact H)|(simp only [eD] at H ⊢;exact H)
        have afV:(IntKind.i64.wrap ((wrap64 (2 * (af.length:Int)))+bN))=arF:=(bJ _).trans eD
        replace H:=iS H;obtain ⟨c33,H⟩:=H
        have aty:=decide_eq_true c33
        clear c33
        replace H:=iS H;obtain ⟨c34,H⟩:=H
        have LB:=decide_eq_true c34
        clear c34
        obtain ⟨asg,xN⟩:=nY (oH.set ((arF):Int).toNat 1:List Int)
        replace H:(if lu.length < 5864062014805 then (aU.l0 k2 a1 a2 bu (wrap64 (2 * (af.length:Int))) ((1:Int) % a1) (lu ++ [asg]) (wrap64 (bN+1))) else (none))=some (r1,r2):=rH xN.z H
        replace H:=iS H;obtain ⟨c36,H⟩:=H
        have Du:=k0 c36
        clear c36
        obtain ⟨rj,uj⟩:=nY (lu ++ [asg]:List (List Int))
        replace H:(aU.l0 k2 a1 a2 bu (wrap64 (2 * (af.length:Int))) ((1:Int) % a1) rj (wrap64 (bN+1)))=some (r1,r2):=rH uj.z H
        have H':=k0 H
        clear H
        obtain ⟨Pn,gN,rfl⟩:=Kd.cy jI.z
        obtain ⟨qQ,qW⟩:=iN bN (gH.length:Int)
        obtain ⟨BO,e115,vY⟩:=Kd.bM (Kd.aqP jI.z).2.2 bN qQ qW
        cases e115
        replace qQ:=eT qQ
        replace qW:=eT qW
        have AI:0≤(bN:Int):=oD
        have AV:(bN:Int) < ((gH.length:Int):Int):=oD
        obtain ⟨fy,vR,Eh,Em,Mk,ady,Dc⟩:=Kd.qG jI.z (by omega)
        (first|cases Eh|(injection Eh with bC eo ek;(first|subst bC|(injection bC with bC;subst bC));subst ek;clear eo))
        have C_:=k0 Em
        have YY:=k0 Dc
        clear Em Mk Dc
        (first|simp only [add_plain] at vY|skip)
        obtain ⟨age,afL⟩:=Kd.kR 0 jI.z (bN:Int) AI AV
        replace AI:=eT AI
        replace AV:=eT AV
        have zF:=Kd.ar0 jI.z (bN:Int) (Int.tmod (wrap64 ((rd gH bN)+1)) a1)
        go_wp2_with (first|((with_reducible refine qi (t:=2) (p:=73) rfl ?_);refine qq (t:=2) (p:=73) (v:=?ajP) (w1:=(wr.setCell ⟨fy,(bN:Int).toNat,none⟩ (.int .i64 (Int.tmod (wrap64 ((rd gH bN)+1)) a1)))) ?hg ?ho ?hn ?hr ?_;(case ho=>rfl);(case hg=>rfl);(case hn=>rfl);(case hr=>first|(go_simp;done)|(go_simp;rfl));intro qt hw;have hg:wr.grownBy qt (some fy):=(by rw [hw];exact zF.2);have gp:Kd.R (Kd.int .i64) 2 qt w.heap.size (fun _=>True) (.slice (some ⟨fy,0,none⟩) gH.length gN) oH:=(by rw [hw,rZ.z];exact zF.1);clear zF;replace aqD:=k0 (Kd.mF (v:=(.slice (some ⟨fy,0,none⟩) gH.length gN)) (v1:=(.slice (some ⟨fy,0,none⟩) gH.length gN)) (ok:=(fun k_=>some k_ ≠ (u11:Value).ownBlock)) (aS aqD.z) hg (.inl rfl));replace bx:=k0 (Kd.mF (v:=(.slice (some ⟨fy,0,none⟩) gH.length gN)) (v1:=(.slice (some ⟨fy,0,none⟩) gH.length gN)) (ok:=(fun k_=>some k_ ≠ (ary:Value).ownBlock)) (aS bx.z) hg (.inl rfl));replace aa:=k0 (aq2 (aB aa.z) hg (Kd.aro jI.z aa.z (by decide)));replace jI:=k0 (gp);replace HB:=k0 ((by rw [hw];exact lZ (HB.z) C_.out:Below w.heap.size w qt));clear hg hw gp;have AJ:0≤((arF):Int):=oD;have AW:((arF):Int) < ((gH.length:Int):Int):=oD;obtain ⟨agf,afM⟩:=Kd.kR 0 jI.z ((arF):Int) AJ AW;replace AJ:=eT AJ;replace AW:=eT AW;obtain ⟨agl,agn⟩:=Kd.kR 0 jI.z ((arF):Int) oD oD;have zG:=Kd.ar0 jI.z ((arF):Int) 1)|((with_reducible refine qi (t:=2) (p:=78) rfl ?_);refine qq (t:=2) (p:=78) (v:=?ajQ) (w1:=(qt.setCell ⟨fy,((arF):Int).toNat,none⟩ (.int .i64 1))) ?hg ?ho ?hn ?hr ?_;(case ho=>rfl);(case hg=>rfl);(case hn=>rfl);(case hr=>first|(go_simp;done)|(go_simp;rfl));intro xb hw;have hg:qt.grownBy xb (some fy):=(by rw [hw];exact zG.2);have gp:Kd.R (Kd.int .i64) 2 xb w.heap.size (fun _=>True) (.slice (some ⟨fy,0,none⟩) gH.length gN) asg:=(by rw [hw,xN.z];exact zG.1);clear zG;replace aqD:=k0 (Kd.mF (v:=(.slice (some ⟨fy,0,none⟩) gH.length gN)) (v1:=(.slice (some ⟨fy,0,none⟩) gH.length gN)) (ok:=(fun k_=>some k_ ≠ (u11:Value).ownBlock)) (aS aqD.z) hg (.inl rfl));replace bx:=k0 (Kd.mF (v:=(.slice (some ⟨fy,0,none⟩) gH.length gN)) (v1:=(.slice (some ⟨fy,0,none⟩) gH.length gN)) (ok:=(fun k_=>some k_ ≠ (ary:Value).ownBlock)) (aS bx.z) hg (.inl rfl));replace aa:=k0 (aq2 (aB aa.z) hg (Kd.aro jI.z aa.z (by decide)));replace jI:=k0 (gp);replace HB:=k0 ((by rw [hw];exact lZ (HB.z) C_.out:Below w.heap.size w xb));clear hg hw gp)|((with_reducible refine ars (b:=.append) (xs:=#[.tmp 79,.tmp 81]) rfl ?_);at_builtin;refine Kd.asc (Kd.slice 2 (Kd.int .i64)) (w0:=w) w.heap.size rfl (.tmp 79) (.tmp 81) 24 29 (.slice none 0 0) 24 rfl Try.underlying24 o_ rfl (by decide) (by omega) u11 lu asg [.slice (some ⟨fy,0,none⟩) gH.length gN] (fun k_=>some k_ ≠ (ary:Value).ownBlock) (fun k_=>some k_=(.slice (some ⟨fy,0,none⟩) gH.length gN:Value).ownBlock) rfl rfl ?aP (fun k_ aqJ=>((Kd.aqM (ok':=fun k_=>((fun k_=>some k_ ≠ (ary:Value).ownBlock)) k_∧some k_ ≠ (u11:Value).ownBlock) (Kd.aq' (Kd.aq' (jI.z) (Kd.fH aqD.z) (by decide)) (Kd.fH bx.z) (by decide)) (fun k_ hk=>⟨hk.1.2,hk.2⟩))).1 k_ aqJ.symm) ?aF ?aO ?aB ?aS ?aL ?_;(case aP=>exact Kd.lD (Kd.aqM (Kd.oV rfl (Kd.aqM (ok':=fun k_=>((fun k_=>some k_ ≠ (ary:Value).ownBlock)) k_∧some k_ ≠ (u11:Value).ownBlock) (Kd.aq' (Kd.aq' (jI.z) (Kd.fH aqD.z) (by decide)) (Kd.fH bx.z) (by decide)) (fun k_ hk=>⟨hk.1.2,hk.2⟩))) (fun _ h_=>h_)));(case aB=>exact bl);(case aF=>exact (fun k_ hk=>Kd.fresh' (Kd.p9 (aS aqD.z)) k_ hk));(case aO=>exact (aS (Kd.b6 bx.z (fun k_ hk=>⟨hk.1,fun e_=>hk.2 e_⟩))));(case aS=>exact (aqG bl));(case aL=>have:=Du.out;omega);intro aju Xd ho hb hg bg;rw [← uj.z] at ho;replace aqD:=k0 (Kd.mF (ok:=(fun k_=>some k_ ≠ (.slice (some ⟨fy,0,none⟩) gH.length gN:Value).ownBlock)) (aS (Kd.b6 aqD.z (fun _ hk=>⟨hk.2,hk.1⟩))) hg bg);replace aa:=k0 (aq2 (aB aa.z) hg (Kd.arl bx.z aa.z (by decide)));replace HB:=k0 (hb);have GC:=k0 (ho);clear bx jI;clear ho hb hg bg))
        first|go_roundg k2|(simp only [← jf];go_roundg k2)|(simp only [← aru];go_roundg k2)|(simp only [← eD];go_roundg k2)
        case measure=>have:=aI.z;have:=aqL.z;omega
        case rel=>exact ⟨(bu),(rj),(wrap64 (bN+1)),rs,(by first|exact H'|(rw [jf];exact H')|(rw [aru];exact H')|(rw [eD];exact H')),⟨by have:=aI.z;have:=aqL.z;omega⟩,⟨aS (Kd.b6 aqD.z (fun _ hk=>hk.2))⟩,⟨aS (GC.z)⟩,⟨bk⟩,⟨bl⟩⟩
       rw [if_pos c30] at H
       exact absurd H (by simp)
      replace H:=iS H;obtain ⟨c18,H⟩:=H
      have B0:=decide_eq_true c18
      clear c18
      replace H:=iS H;obtain ⟨c19,H⟩:=H
      have xZ:=decide_eq_true c19
      clear c19
      replace H:=iS H;obtain ⟨c20,H⟩:=H
      have vP:=decide_eq_true c20
      clear c20
      replace H:=iS H;obtain ⟨c21,H⟩:=H
      have asZ:=decide_eq_true c21
      clear c21
      replace H:=bS H;obtain ⟨t113,tU,H⟩:=H
      replace H:=iS H;obtain ⟨c23,H⟩:=H
      have RX:=decide_eq_true c23
      clear c23
      obtain ⟨O2,QH⟩:=nY (gH.set (qu:Int).toNat t113:List Int)
      replace H:(aU.l1 k2 a1 a2 bu (wrap64 (2 * (af.length:Int))) ((1:Int) % a1) lu bN O2 (wrap64 (qu+1)))=some (r1,r2):=rH QH.z H
      have H':=k0 H
      clear H
      obtain ⟨Yh,qK,rfl⟩:=Kd.dL aqD.z
      obtain ⟨mS,kA⟩:=iN bN (bu.length:Int)
      obtain ⟨uq,XH,Lu,e111,tu,ER,EJ⟩:=cD (Kd.a_ aqD.z).2.2 bN mS kA
      cases e111
      obtain ⟨amQ,afd,aeV,TM⟩:=Kd.aq9 aqD.z [] bN mS (by first|exact kA|exact oD|(have e_:=(Kd.a_ aqD.z).1;omega))
      obtain ⟨apG,rfl,L5⟩:=aeV
      have Fa:=TM 0 _ rfl
      rw [Nat.add_zero,show ((Kd.slice 2 (Kd.int .i64))).sz=1 from rfl,Nat.mul_one] at Fa
      replace Fa:=Option.some.inj (Fa.symm.trans tu)
      rw [Fa] at L5
      have Df:=k0 (show Kd.R (Kd.int .i64) 2 _ _ _ _ (ah bu bN) from L5)
      clear Fa L5
      have Dq:=k0 tu
      clear TM afd
      have wC:=k0 EJ
      have Zg:=k0 ER
      clear EJ ER
      replace mS:=eT mS
      replace kA:=eT kA
      obtain ⟨iZ,iA⟩:=iN qu ((ah bu bN).length:Int)
      obtain ⟨ur,e112,tv⟩:=Kd.bM (by repeat (first|(with_reducible exact wC.z)|(with_reducible refine Kd.fP ?_ _)|(with_reducible refine Kd.fQ ?_ _)|(with_reducible refine Kd.fk ?_)|exact wC.z)) qu iZ iA
      cases e112
      replace iZ:=eT iZ
      replace iA:=eT iA
      go_wp2_with (first|(refine aqz (f:=103) rfl ?_;refine gC (some 62) Try.func103 #[.int .i64 a1,.int .i64 (wrap64 ((wrap64 (-a2)) * (rd (ah bu bN) qu)))] ?_;(with_reducible refine (qz.calls a1 (wrap64 ((wrap64 (-a2)) * (rd (ah bu bN) qu))) t113 _ tU.z).mono ?_);rintro e w' ⟨rfl,⟨nd,rfl⟩⟩;refine ⟨_,rfl,?_⟩;(try (rw [Hx wr];generalize iz:World.drewN wr _=wr;have fX:ai (Kd.R (Kd.int .i64) 2 wr w.heap.size (fun k_=>((some k_ ≠ (u11:Value).ownBlock∧some k_ ≠ (ar1:Value).ownBlock)∧some k_ ≠ (.slice (some uq) bu.length qK:Value).ownBlock)) (.slice (some ur) (ah bu bN).length Lu) (ah bu bN)):=⟨by rw [← iz];exact (aR Df.z)⟩;have fY:ai (Kd.S (Kd.slice 2 (Kd.int .i64)) 29 wr w.heap.size (fun k_=>(some k_ ≠ (.slice (some uq) bu.length qK:Value).ownBlock∧some k_ ≠ (ar1:Value).ownBlock)) u11 lu):=⟨by rw [← iz];exact (aS bx.z)⟩;have iJ:ai (Kd.R (Kd.int .i64) 2 wr w.heap.size (fun _=>True) ar1 gH):=⟨by rw [← iz];exact (aR jI.z)⟩;have iK:ai (Kd.S (Kd.slice 2 (Kd.int .i64)) 29 wr w.heap.size (fun k_=>(some k_ ≠ (u11:Value).ownBlock∧some k_ ≠ (ar1:Value).ownBlock)) (.slice (some uq) bu.length qK) bu):=⟨by rw [← iz];exact (aS aqD.z)⟩;have mR:ai (wr.cell? (uq.add (bN).toNat)=some (.slice (some ur) (ah bu bN).length Lu)):=⟨by rw [← iz];exact Dq.z⟩;have ass:ai (wr.heap[aA]?=some (sO ag az af ay 26)):=⟨by rw [← iz];exact bk⟩;have FL:ai (Below w.heap.size w wr):=⟨by rw [← iz];exact bl⟩;have FM:ai (Kd.C (Kd.int .i64) wr (some ur) (ah bu bN).length (ah bu bN)):=⟨by rw [← iz];exact (by repeat (first|(with_reducible exact wC.z)|(with_reducible refine Kd.fP ?_ _)|(with_reducible refine Kd.fQ ?_ _)|(with_reducible refine Kd.fk ?_)|exact wC.z))⟩;clear Df bx jI aqD Dq aa HB wC iz;have Df:=fX;have bx:=fY;have jI:=iJ;have aqD:=iK;have Dq:=mR;have aa:=ass;have HB:=FL;have wC:=FM;clear fX fY iJ iK mR ass FL FM));have NS:0≤(qu:Int):=oD;have N8:(qu:Int) < ((gH.length:Int):Int):=oD;obtain ⟨vT,uw,Ef,Tj,aeG,ang,PV⟩:=Kd.qG jI.z (by omega);(first|cases Ef|(injection Ef with bC eo ek;(first|subst bC|(injection bC with bC;subst bC));subst ek;clear eo));have YR:=k0 Tj;have ak4:=k0 PV;clear Tj aeG PV;obtain ⟨aoT,an3⟩:=Kd.kR 0 jI.z (qu:Int) NS N8;replace NS:=eT NS;replace N8:=eT N8;obtain ⟨agk,agm⟩:=Kd.kR 0 jI.z (qu:Int) oD oD;have zE:=Kd.ar0 jI.z (qu:Int) t113)|((with_reducible refine qi (t:=2) (p:=63) rfl ?_);refine qq (t:=2) (p:=63) (v:=?ajO) (w1:=(wr.setCell ⟨vT,(qu:Int).toNat,none⟩ (.int .i64 t113))) ?hg ?ho ?hn ?hr ?_;(case ho=>rfl);(case hg=>rfl);(case hn=>rfl);(case hr=>first|(go_simp;done)|(go_simp;rfl));intro rL hw;have hg:wr.grownBy rL (some vT):=(by rw [hw];exact zE.2);have gp:Kd.R (Kd.int .i64) 2 rL w.heap.size (fun _=>True) (.slice (some ⟨vT,0,none⟩) gH.length uw) O2:=(by rw [hw,QH.z];exact zE.1);clear zE;replace bx:=k0 (Kd.mF (v:=(.slice (some ⟨vT,0,none⟩) gH.length uw)) (v1:=(.slice (some ⟨vT,0,none⟩) gH.length uw)) (ok:=(fun k_=>some k_ ≠ (.slice (some uq) bu.length qK:Value).ownBlock)) (aS bx.z) hg (.inl rfl));replace aa:=k0 (aq2 (aB aa.z) hg (Kd.aro jI.z aa.z (by decide)));replace Df:=k0 (Kd.arZ (v:=(.slice (some ⟨vT,0,none⟩) gH.length uw)) (v1:=(.slice (some ⟨vT,0,none⟩) gH.length uw)) (ok:=(fun k_=>some k_ ≠ (.slice (some uq) bu.length qK:Value).ownBlock∧some k_ ≠ (u11:Value).ownBlock)) (aR (Kd.aqM Df.z (fun _ hk=>⟨⟨hk.2,hk.1.1⟩,hk.1.2⟩))) hg (.inl rfl));replace Dq:=k0 (r8 hg Dq.z (Hh (v:=(.slice (some ⟨vT,0,none⟩) gH.length uw)) (Kd.fH aqD.z) (Kd.BM jI.z) (by decide)));replace aqD:=k0 (Kd.mF (v:=(.slice (some ⟨vT,0,none⟩) gH.length uw)) (v1:=(.slice (some ⟨vT,0,none⟩) gH.length uw)) (ok:=(fun k_=>some k_ ≠ (u11:Value).ownBlock)) (aS aqD.z) hg (.inl rfl));replace jI:=k0 (gp);replace HB:=k0 ((by rw [hw];exact lZ (HB.z) YR.out:Below w.heap.size w rL));clear hg hw gp))
      first|go_roundg k2|(simp only [← jf];go_roundg k2)|(simp only [← aru];go_roundg k2)|(simp only [← eD];go_roundg k2)
      case measure=>have:=aI.z;have:=aqL.z;omega
      case rel=>exact ⟨(O2),(wrap64 (qu+1)),rs,(by first|exact H'|(rw [jf];exact H')|(rw [aru];exact H')|(rw [eD];exact H')),⟨by have:=aI.z;have:=aqL.z;omega⟩,⟨aS (aqD.z)⟩,⟨aS (bx.z)⟩,⟨aR (jI.z)⟩,⟨bk⟩,⟨bl⟩⟩
 rw [if_pos c5] at H
 exact absurd H (by simp)
end Go.Proofs.Ytapnggjaeehpdaa.A
/- Set with little white space, by a program. -/
