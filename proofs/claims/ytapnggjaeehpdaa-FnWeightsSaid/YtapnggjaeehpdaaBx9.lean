/- Go's calls come to what the Lean functions say. Condition of each: that the Lean function answers. -/
import Derived.Test.YtapnggjaeehpdaaBx0
import Derived.Test.YtapnggjaeehpdaaBx8
namespace Go.Proofs.Ytapnggjaeehpdaa.B
open Go.RowKit Go.Proofs.bz.dI Go.Proofs.bz.iY Go.Proofs.bz.jn
attribute [local go_sem] max2_int min2_int max_two min_two max_three min_three max_four min_four
set_option linter.unusedVariables false
set_option linter.unusedSimpArgs false
/-! ### F116: function 116 -/
mutual
def ata.l0 : Nat → Int → List (List Int) → Int → List (List Int) → Int → Int → Option ((List (List Int)))
 | 0,_,_,_,_,_,_=>none
 | k+1,x1,x5,x6,jz,nr,xw=>if xw < nr then (if 0≤xw then (if xw < (jz.length:Int) then (ata.l1 k x1 x5 x6 (([]:List Int)) jz nr xw (ai jz xw) ((ai jz xw).length:Int) 0) else (none)) else (none)) else (ata.l2 k x1 x5 x6 1)
def ata.l1 : Nat → Int → List (List Int) → Int → List Int → List (List Int) → Int → Int → List Int → Int → Int → Option ((List (List Int)))
 | 0,_,_,_,_,_,_,_,_,_,_=>none
 | k+1,x1,x5,x6,x9,jz,nr,xw,IG,Z0,Dj=>if Dj < Z0 then (if 0≤Dj then (if Dj < (IG.length:Int) then ((nZ.f (rd IG Dj) x1).bind fun t109=>(if x9.length < 17592186044416 then (ata.l1 k x1 x5 x6 (x9 ++ [t109]) jz nr xw IG Z0 (wrap64 (Dj+1))) else (none))) else (none)) else (none)) else (if x5.length < 5864062014805 then (ata.l0 k x1 (x5 ++ [x9]) x6 jz nr (wrap64 (xw+1))) else (none))
def ata.l2 : Nat → Int → List (List Int) → Int → Int → Option ((List (List Int)))
 | 0,_,_,_,_=>none
 | k+1,x1,x5,x6,bA=>if bA < (wrap64 (x6 - 1)) then (ata.l3 k x1 x5 x6 bA bA) else (some x5)
def ata.j4 : Nat → Int → List (List Int) → Int → Int → Int → Option ((List (List Int)))
 | 0,_,_,_,_,_=>none
 | k+1,x1,x5,x6,bA,b6=>if b6=x6 then (ata.l2 k x1 x5 x6 (wrap64 (bA+1))) else (if 0≤bA then (if bA < (x5.length:Int) then (if 0≤b6 then (if b6 < (x5.length:Int) then (ata.l4 k x1 (swp x5 b6 bA) x6 bA b6 (x5.length:Int) 0) else (none)) else (none)) else (none)) else (none))
def ata.l4 : Nat → Int → List (List Int) → Int → Int → Int → Int → Int → Option ((List (List Int)))
 | 0,_,_,_,_,_,_,_=>none
 | k+1,x1,x5,x6,bA,b6,Z3,xz=>if xz < Z3 then (if 0≤xz then (if xz < (x5.length:Int) then (if 0≤bA then (if bA < ((ai x5 xz).length:Int) then (if 0≤b6 then (if b6 < ((ai x5 xz).length:Int) then ((some ((ai x5 xz).set (b6:Int).toNat (rd (ai x5 xz) bA):List Int)).bind fun rR=>(ata.l4 k x1 ((x5.set (xz:Int).toNat rR).set (xz:Int).toNat (rR.set (bA:Int).toNat (rd (ai x5 xz) b6))) x6 bA b6 Z3 (wrap64 (xz+1)))) else (none)) else (none)) else (none)) else (none)) else (none)) else (none)) else (if 0≤bA then (if bA < (x5.length:Int) then (if 0≤(wrap64 (bA - 1)) then (if (wrap64 (bA - 1)) < ((ai x5 bA).length:Int) then ((nX.f k (rd (ai x5 bA) (wrap64 (bA - 1))) x1).bind fun t135=>(ata.l5 k x1 x5 x6 bA t135 (wrap64 (bA+1)))) else (none)) else (none)) else (none)) else (none))
def ata.l5 : Nat → Int → List (List Int) → Int → Int → Int → Int → Option ((List (List Int)))
 | 0,_,_,_,_,_,_=>none
 | k+1,x1,x5,x6,bA,fu,atj=>if atj < x6 then (if 0≤atj then (if atj < (x5.length:Int) then (if 0≤(wrap64 (bA - 1)) then (if (wrap64 (bA - 1)) < ((ai x5 atj).length:Int) then (if x1=0 then (none) else (if (Int.tmod (wrap64 ((rd (ai x5 atj) (wrap64 (bA - 1))) * fu)) x1)=0 then (ata.l5 k x1 x5 x6 bA fu (wrap64 (atj+1))) else (ata.l6 k x1 x5 x6 bA fu atj (Int.tmod (wrap64 ((rd (ai x5 atj) (wrap64 (bA - 1))) * fu)) x1) x6 0))) else (none)) else (none)) else (none)) else (none)) else (ata.l2 k x1 x5 x6 (wrap64 (bA+1)))
def ata.l6 : Nat → Int → List (List Int) → Int → Int → Int → Int → Int → Int → Int → Option ((List (List Int)))
 | 0,_,_,_,_,_,_,_,_,_=>none
 | k+1,x1,x5,x6,bA,fu,atj,dQ,ZY,Bt=>if Bt < ZY then (if 0≤atj then (if atj < (x5.length:Int) then (if 0≤Bt then (if Bt < ((ai x5 atj).length:Int) then (if 0≤bA then (if bA < (x5.length:Int) then (if Bt < ((ai x5 bA).length:Int) then ((nZ.f (wrap64 ((rd (ai x5 atj) Bt) - (wrap64 (dQ * (rd (ai x5 bA) Bt))))) x1).bind fun t143=>(ata.l6 k x1 (x5.set (atj:Int).toNat ((ai x5 atj).set (Bt:Int).toNat t143)) x6 bA fu atj dQ ZY (wrap64 (Bt+1)))) else (none)) else (none)) else (none)) else (none)) else (none)) else (none)) else (none)) else (ata.l7 k x1 x5 x6 bA fu atj dQ x6 0)
def ata.l7 : Nat → Int → List (List Int) → Int → Int → Int → Int → Int → Int → Int → Option ((List (List Int)))
 | 0,_,_,_,_,_,_,_,_,_=>none
 | k+1,x1,x5,x6,bA,fu,atj,dQ,ZZ,yx=>if yx < ZZ then (if 0≤yx then (if yx < (x5.length:Int) then (if 0≤bA then (if bA < ((ai x5 yx).length:Int) then (if 0≤atj then (if atj < ((ai x5 yx).length:Int) then (if x1=0 then (none) else (ata.l7 k x1 (x5.set (yx:Int).toNat ((ai x5 yx).set (bA:Int).toNat (Int.tmod (wrap64 ((rd (ai x5 yx) bA)+(wrap64 (dQ * (rd (ai x5 yx) atj))))) x1))) x6 bA fu atj dQ ZZ (wrap64 (yx+1)))) else (none)) else (none)) else (none)) else (none)) else (none)) else (none)) else (ata.l5 k x1 x5 x6 bA fu (wrap64 (atj+1)))
def ata.l3 : Nat → Int → List (List Int) → Int → Int → Int → Option ((List (List Int)))
 | 0,_,_,_,_,_=>none
 | k+1,x1,x5,x6,bA,b6=>if b6 < x6 then (if 0≤b6 then (if b6 < (x5.length:Int) then (if 0≤(wrap64 (bA - 1)) then (if (wrap64 (bA - 1)) < ((ai x5 b6).length:Int) then (if (rd (ai x5 b6) (wrap64 (bA - 1)))=0 then (ata.l3 k x1 x5 x6 bA (wrap64 (b6+1))) else (ata.j4 k x1 x5 x6 bA b6)) else (none)) else (none)) else (none)) else (none)) else (ata.j4 k x1 x5 x6 bA b6)
end
def ata.f (k:Nat) (l0:List (List Int)) (a1:Int):Option ((List (List Int))):=ata.l0 k a1 (([]:List (List Int))) (l0.length:Int) l0 (l0.length:Int) 0
def ata.TW:Bool × List (List Nat × List Nat):=(true,[([],[]),([],[]),([],[]),([],[]),([],[]),([],[]),([4,5],[4,5]),([6],[6]),([],[]),([],[]),([8,9],[8,9]),([10],[10]),([0,1,0,1,4,5,6,7,11],[0,1]),([12,7,0,1,4,5,6,7,11],[7,12]),([2,3,0,1,2,3,4,5,6,7,8,9,10,11,12,13],[2,3]),([14,11,13,0,1,2,3,4,5,6,7,8,9,10,11,12,13],[11,14])])
def ata.B20:List Nat:=[0,0,0,0,0,0,48,112,0,0,768,1792,4083,8179,16383,32767]
theorem ata.akC:eB .any (opsOf Try.f116 20)=ata.TW:=by kernel_rfl
theorem ata.adw:ie ata.TW.2 ata.B20=true:=by kernel_rfl
def ata.TZ:Bool × List (List Nat × List Nat):=(true,[([],[]),([],[]),([0,1],[0,1]),([2],[2]),([],[]),([],[]),([],[]),([5,6],[5,6]),([7],[7]),([],[]),([],[]),([],[]),([10,11],[10,11]),([12],[12]),([],[]),([13,14],[13,14]),([15],[15]),([],[]),([],[]),([17,18],[17,18]),([19],[19]),([],[]),([20,21],[20,21]),([22],[22]),([3,4,0,1,2,3,4,8,10,11,12,13,14,15,16,20,23],[3,4]),([24,16,0,1,2,3,4,8,10,11,12,13,14,15,16,20,23],[16,24]),([8,9,0,1,2,3,4,5,6,7,8,9,10,11,12,13,14,15,16,17,18,19,20,21,22,23,24,25],[8,9]),([26,23,25,0,1,2,3,4,5,6,7,8,9,10,11,12,13,14,15,16,17,18,19,20,21,22,23,24,25],[23,26])])
def ata.B24:List Nat:=[0,0,3,7,0,0,0,96,224,0,0,0,3072,7168,0,31744,64512,0,0,393216,917504,0,4063232,8257536,16776703,33553919,67108863,134217727]
theorem ata.akF:eB .any (opsOf Try.f116 24)=ata.TZ:=by kernel_rfl
theorem ata.adz:ie ata.TZ.2 ata.B24=true:=by kernel_rfl
def ata.T2:Bool × List (List Nat × List Nat):=(true,[([],[]),([],[]),([0,1],[0,1]),([2],[2]),([],[]),([],[]),([],[]),([5,6],[5,6]),([7],[7]),([],[]),([8,9],[8,9]),([10],[10]),([],[]),([],[]),([],[]),([13,14],[13,14]),([15],[15]),([],[]),([16,17],[16,17]),([18],[18]),([12,19],[12,19]),([11,20],[11,20]),([],[]),([21,22],[21,22]),([3,4,0,1,2,3,4,5,6,7,8,9,10,11,12,13,14,15,16,17,18,19,20,21,22,23],[3,4]),([24,23,23,0,1,2,3,4,5,6,7,8,9,10,11,12,13,14,15,16,17,18,19,20,21,22,23],[23,24])])
def ata.B35:List Nat:=[0,0,3,7,0,0,0,96,224,0,992,2016,0,0,0,24576,57344,0,253952,516096,1044480,2097120,0,8388576,16777215,33554431]
theorem ata.akH:eB .any (opsOf Try.f116 35)=ata.T2:=by kernel_rfl
theorem ata.adB:ie ata.T2.2 ata.B35=true:=by kernel_rfl
def ata.avT:Bool × List (List Nat × List Nat):=(true,[([],[]),([],[]),([0,1],[0,1]),([2],[2]),([],[]),([],[]),([],[]),([5,6],[5,6]),([7],[7]),([],[]),([8,9],[8,9]),([10],[10]),([],[]),([],[]),([],[]),([13,14],[13,14]),([15],[15]),([],[]),([16,17],[16,17]),([18],[18]),([12,19],[12,19]),([11,20],[11,20]),([],[]),([21,22],[21,22]),([3,4,0,1,2,3,4,5,6,7,8,9,10,11,12,13,14,15,16,17,18,19,20,21,22,23],[3,4]),([24,23,0,1,2,3,4,5,6,7,8,9,10,11,12,13,14,15,16,17,18,19,20,21,22,23],[23,24])])
def ata.B40:List Nat:=[0,0,3,7,0,0,0,96,224,0,992,2016,0,0,0,24576,57344,0,253952,516096,1044480,2097120,0,8388576,16777215,33554431]
theorem ata.akI:eB .any (opsOf Try.f116 40)=ata.avT:=by kernel_rfl
theorem ata.adC:ie ata.avT.2 ata.B40=true:=by kernel_rfl
set_option maxHeartbeats 8000000 in
set_option maxRecDepth 100000 in
theorem ata.calls (k : Nat) (A0 : Option Addr) (c0 : Nat) (l0 : List (List Int)) (a1 : Int) (r : List (List Int)) (w : World) (bX : Kd.C (Kd.slice 2 (Kd.int .i64)) w A0 l0.length l0) (hc0 : l0.length ≤ c0) (h : ata.f k l0 a1 = some r) :
  Calls Try.prog 116 #[.slice A0 l0.length c0,.int .i64 a1] w fun e w'=>∃ ati:Value,e=.returned (ati)∧Kd.S (Kd.slice 2 (Kd.int .i64)) 29 w' w.heap.size (fun _=>True) ati r∧Below w.heap.size w w':=by
 have dh:=k0 bX
 have gG:=k0 hc0
 clear bX hc0
 have HB:=k0 (Below.refl w.heap.size w)
 unfold ata.f at h
 have H:=h
 clear h
 obtain ⟨atN,gH⟩:=nY (([]:List (List Int)):List (List Int))
 replace H:(ata.l0 k a1 atN (l0.length:Int) l0 (l0.length:Int) 0)=some r:=rH gH.z H
 have H':=k0 H
 clear H
 go_enter Try.func116,Try.ntmps116
 go_wp2_with (first|(refine aX (N:=20) rfl ?_;refine Kd.Eb (Kd.slice 2 (Kd.int .i64)) _ 29 ?hg (N:=20) ?hd (xs:=([]:List (List Int))) (inner:=[]) (ok:=fun _=>True) (cm:=fun _=>True) ?hr ?hp (fun _ hk=>hk) trivial (Below.refl _ _) (Nat.le_refl _) (by simp) ?_;(case hd=>rfl);(case hg=>rfl);(case hr=>first|(go_simp;done)|(go_simp;rfl));(case hp=>exact (aJ.none _ _));intro nO w3 fM hb bR atf;clear bR atf;(first|rw [← gH.z] at fM|(simp only [Int.reduceToNat] at fM;rw [← gH.z] at fM));have eV:=k0 (Kd.jD fM (as8 bl));replace HB:=bW hb;clear hb fM))
 go_loopg [5,25] k (fun kq v5 Rt w'=>∃ (aD:List (List Int)) (oW:Int),Rt=.int .i64 oW∧af (ata.l0 kq a1 aD (l0.length:Int) l0 (l0.length:Int) oW=some r)∧af (kq≤k)∧af (Kd.S (Kd.slice 2 (Kd.int .i64)) 29 w' w.heap.size (fun _=>True) v5 aD)∧af (Below w.heap.size w w'))
 case atStart=>exact ⟨(atN),(0),rs,H',⟨Nat.le_refl _⟩,⟨aS (eV.z)⟩,⟨bl⟩⟩
 case round =>
  clear H'
  obtain ⟨aD,oW,rfl,HA,as3,aq,HB⟩:=hrel
  cases gk with
  | zero=>exact absurd HA.z (by simp [ata.l0])
  | succ k1 =>
   have H:=HA.z
   clear HA
   simp only [ata.l0] at H
   replace H:=iC H;obtain ⟨gJ,H⟩|⟨gJ,H⟩:=H
   case inl =>
    have H':=k0 H
    clear H
    go_wp2
    go_loopg [12] k1 (fun kq sD w'=>∃ (bg:List (List Int)) (ath:Int),sD=.int .i64 ath∧af (ata.l2 kq a1 bg (l0.length:Int) ath=some r)∧af (kq≤k1)∧af (Kd.S (Kd.slice 2 (Kd.int .i64)) 29 w' w.heap.size (fun _=>True) u5 bg)∧af (Below w.heap.size w w'))
    case atStart=>exact ⟨(aD),(1),rs,H',⟨Nat.le_refl _⟩,⟨aS (aq.z)⟩,⟨bl⟩⟩
    case round =>
     clear H'
     obtain ⟨bg,ath,rfl,HA,bw,aq,HB⟩:=hrel
     cases gk with
     | zero=>exact absurd HA.z (by simp [ata.l2])
     | succ k2 =>
      have H:=HA.z
      clear HA
      simp only [ata.l2] at H
      replace H:=iC H;obtain ⟨auB,H⟩|⟨auB,H⟩:=H
      case inl =>
       obtain rfl:=Option.some.inj H
       go_wp2
       go_ret
       exact ⟨_,eR,aS aq.z,bl⟩
      have Mk:=k0 H
      clear H
      go_upto_block 6 with (fail)
      go_cut [13] (fun tQ wc=>∃ (kq:Nat) (ig:Int),tQ=.int .i64 ig∧af (ata.j4 kq a1 bg (l0.length:Int) ath ig=some r)∧af (kq≤k2)∧af (Kd.S (Kd.slice 2 (Kd.int .i64)) 29 wc w.heap.size (fun _=>True) u5 bg)∧af (Below w.heap.size w wc))
      case first =>
       have H:=Mk.z
       clear Mk
       have H':=k0 H
       clear H
       go_wp2
       go_loopg [13] k2 (fun kq tQ w'=>∃ (dP:Int),tQ=.int .i64 dP∧af (ata.l3 kq a1 bg (l0.length:Int) ath dP=some r)∧af (kq≤k2)∧af (Kd.S (Kd.slice 2 (Kd.int .i64)) 29 w' w.heap.size (fun _=>True) u5 bg)∧af (Below w.heap.size w w'))
       case atStart=>exact ⟨(ath),rs,H',⟨Nat.le_refl _⟩,⟨aS (aq.z)⟩,⟨bl⟩⟩
       case round =>
        clear H'
        obtain ⟨dP,rfl,HA,cS,aq,HB⟩:=hrel
        cases gk with
        | zero=>exact absurd HA.z (by simp [ata.l3])
        | succ k3 =>
         have H:=HA.z
         clear HA
         simp only [ata.l3] at H
         replace H:=iC H;obtain ⟨ow,H⟩|⟨ow,H⟩:=H
         case inl =>
          (first|rw [ow]|(simp only [bp,bH];rw [ow])|skip)
          have H':=k0 H
          clear H
          go_wp2
          go_meet
          case rel=>exact ⟨_,(dP),rs,(by first|exact H'|(rw [at6];exact H')|(rw [jG];exact H')),⟨by have:=as3.z;have:=bw.z;have:=cS.z;first|omega|exact Nat.le_refl _⟩,⟨aS (aq.z)⟩,⟨bl⟩⟩
         (first|rw [ow]|(simp only [bp,bH];rw [ow])|skip)
         replace H:=iS H;obtain ⟨c22,H⟩:=H
         have Cd:=decide_eq_true c22
         clear c22
         replace H:=iS H;obtain ⟨c23,H⟩:=H
         have yZ:=decide_eq_true c23
         clear c23
         obtain ⟨ye,at6⟩:∃ j_:Int,(wrap64 (ath - 1))=j_:=⟨_,rfl⟩
         replace H:(if 0≤(ye) then (if (ye) < ((ai bg dP).length:Int) then (if (rd (ai bg dP) (ye))=0 then (ata.l3 k3 a1 bg (l0.length:Int) ath (wrap64 (dP+1))) else (ata.j4 k3 a1 bg (l0.length:Int) ath dP)) else (none)) else (none))=some r:=by first|(rw [at6] at H;exact H)|(simp only [at6] at H ⊢;exact H)
         have aqd:(IntKind.i64.wrap (ath - 1))=ye:=(bp _).trans at6
         replace H:=iS H;obtain ⟨c25,H⟩:=H
         have Ce:=decide_eq_true c25
         clear c25
         replace H:=iS H;obtain ⟨c26,H⟩:=H
         have Cf:=decide_eq_true c26
         clear c26
         replace H:=iE H;obtain ⟨c27,N0,ad6,H⟩|⟨N0,ad6,H⟩:=H
         case inl =>
          have H':=k0 H
          clear H
          obtain ⟨oY,pq,rfl⟩:=Kd.er aq.z
          obtain ⟨qh,qi⟩:=iN dP (bg.length:Int)
          obtain ⟨Ec,RY,Up,e116,tG,AK,AD⟩:=b8 (Kd.as4 aq.z).2.2 dP qh qi
          cases e116
          obtain ⟨aeK,O8,OY,GW⟩:=Kd.att aq.z [] dP qh (by first|exact qi|exact oD|(have e_:=(Kd.as4 aq.z).1;omega))
          obtain ⟨ak2,rfl,Ct⟩:=OY
          have wH:=GW 0 _ rfl
          rw [Nat.add_zero,show ((Kd.slice 2 (Kd.int .i64))).sz=1 from rfl,Nat.mul_one] at wH
          replace wH:=Option.some.inj (wH.symm.trans tG)
          rw [wH] at Ct
          have abc:=k0 (show Kd.R (Kd.int .i64) 2 _ _ _ _ (ai bg dP) from Ct)
          clear wH Ct
          have abD:=k0 tG
          clear GW O8
          have BX:=k0 AD
          have Sn:=k0 AK
          clear AD AK
          replace qh:=eT qh
          replace qi:=eT qi
          have auT:0≤((ye):Int):=oD
          have auX:(ye) < ((ai bg dP).length:Int):=oD
          obtain ⟨avW,e117,KD⟩:=Kd.bK (by repeat (first|(with_reducible exact BX.z)|(with_reducible refine Kd.jO ?_ _)|(with_reducible refine Kd.jP ?_ _)|(with_reducible refine Kd.ij ?_)|exact BX.z)) (ye) auT auX
          cases e117
          replace auT:=eT auT
          replace auX:=eT auX
          go_wp2
          go_meet
          case rel=>exact ⟨_,(dP),rs,(by first|exact H'|(rw [at6];exact H')|(rw [jG];exact H')),⟨by have:=as3.z;have:=bw.z;have:=cS.z;first|omega|exact Nat.le_refl _⟩,⟨aS (aq.z)⟩,⟨bl⟩⟩
         have H':=k0 H
         clear H
         obtain ⟨xH,uA,rfl⟩:=Kd.er aq.z
         obtain ⟨qh,qi⟩:=iN dP (bg.length:Int)
         obtain ⟨Ec,RY,Up,e116,tG,AK,AD⟩:=b8 (Kd.as4 aq.z).2.2 dP qh qi
         cases e116
         obtain ⟨aeK,O8,OY,GW⟩:=Kd.att aq.z [] dP qh (by first|exact qi|exact oD|(have e_:=(Kd.as4 aq.z).1;omega))
         obtain ⟨ak2,rfl,Ct⟩:=OY
         have wH:=GW 0 _ rfl
         rw [Nat.add_zero,show ((Kd.slice 2 (Kd.int .i64))).sz=1 from rfl,Nat.mul_one] at wH
         replace wH:=Option.some.inj (wH.symm.trans tG)
         rw [wH] at Ct
         have abc:=k0 (show Kd.R (Kd.int .i64) 2 _ _ _ _ (ai bg dP) from Ct)
         clear wH Ct
         have abD:=k0 tG
         clear GW O8
         have BX:=k0 AD
         have Sn:=k0 AK
         clear AD AK
         replace qh:=eT qh
         replace qi:=eT qi
         have auT:0≤((ye):Int):=oD
         have auX:(ye) < ((ai bg dP).length:Int):=oD
         obtain ⟨avW,e117,KD⟩:=Kd.bK (by repeat (first|(with_reducible exact BX.z)|(with_reducible refine Kd.jO ?_ _)|(with_reducible refine Kd.jP ?_ _)|(with_reducible refine Kd.ij ?_)|exact BX.z)) (ye) auT auX
         cases e117
         replace auT:=eT auT
         replace auX:=eT auX
         go_wp2
         first|go_roundg k3|(simp only [← at6];go_roundg k3)|(simp only [← jG];go_roundg k3)
         case measure=>have:=as3.z;have:=bw.z;have:=cS.z;omega
         case rel=>exact ⟨(wrap64 (dP+1)),rs,(by first|exact H'|(rw [at6];exact H')|(rw [jG];exact H')),⟨by have:=as3.z;have:=bw.z;have:=cS.z;omega⟩,⟨aS (aq.z)⟩,⟨bl⟩⟩
      case rest =>
       clear Mk
       obtain ⟨kq,ig,rfl,HA,rU,aq,HB⟩:=hcut
       cases kq with
       | zero=>exact absurd HA.z (by simp [ata.j4])
       | succ ES =>
        have H:=HA.z
        clear HA
        simp only [ata.j4] at H
        replace H:=iE H;obtain ⟨c30,ad9,av2,H⟩|⟨ad9,av2,H⟩:=H
        case inl =>
         replace H:=iS H;obtain ⟨c31,H⟩:=H
         have JP:=decide_eq_true c31
         clear c31
         replace H:=iS H;obtain ⟨c32,H⟩:=H
         have Ch:=decide_eq_true c32
         clear c32
         replace H:=iS H;obtain ⟨c33,H⟩:=H
         have aeb:=decide_eq_true c33
         clear c33
         replace H:=iS H;obtain ⟨c34,H⟩:=H
         have uy:=decide_eq_true c34
         clear c34
         obtain ⟨Dk,D4⟩:=nY (swp bg ig ath:List (List Int))
         replace H:(ata.l4 ES a1 Dk (l0.length:Int) ath ig (bg.length:Int) 0)=some r:=rH D4.z H
         have H':=k0 H
         clear H
         try go_wp2
         replace aq:=k0 (Kd.dK aq.z);replace HB:=k0 (eZ HB.z)
         obtain ⟨aam,avs,Gs⟩:=Kd.er aq.z
         (first|subst Gs|(injection Gs with atu jq fc;have jr:=atu.symm;have js:=fc.symm;clear atu jq fc;subst jr;subst js))
         obtain ⟨auv,qj⟩:=iN ath (bg.length:Int)
         obtain ⟨xY,LW,NT,e118,auS,Ho,G9⟩:=b8 (Kd.as4 aq.z).2.2 ath auv qj
         cases e118
         obtain ⟨aeL,O9,OZ,GX⟩:=Kd.att aq.z [] ath auv (by first|exact qj|exact oD|(have e_:=(Kd.as4 aq.z).1;omega))
         obtain ⟨ak3,rfl,Cu⟩:=OZ
         have auR:=GX 0 _ rfl
         rw [Nat.add_zero,show ((Kd.slice 2 (Kd.int .i64))).sz=1 from rfl,Nat.mul_one] at auR
         replace auR:=Option.some.inj (auR.symm.trans auS)
         rw [auR] at Cu
         have SH:=k0 (show Kd.R (Kd.int .i64) 2 _ _ _ _ (ai bg ath) from Cu)
         clear auR Cu
         have z9:=k0 auS
         clear GX O9
         have S3:=k0 G9
         have aa9:=k0 Ho
         clear G9 Ho
         replace auv:=eT auv
         replace qj:=eT qj
         obtain ⟨qR,pR⟩:=iN ig (bg.length:Int)
         obtain ⟨avv,LX,JN,e119,wN,AL,AE⟩:=b8 (Kd.as4 aq.z).2.2 ig qR pR
         obtain rfl:xY=avv:=(by injection e119)
         obtain ⟨UA,G2,GN,Az⟩:=Kd.att aq.z [] ig qR (by first|exact pR|exact oD|(have e_:=(Kd.as4 aq.z).1;omega))
         obtain ⟨Zx,rfl,vZ⟩:=GN
         have p_:=Az 0 _ rfl
         rw [Nat.add_zero,show ((Kd.slice 2 (Kd.int .i64))).sz=1 from rfl,Nat.mul_one] at p_
         replace p_:=Option.some.inj (p_.symm.trans wN)
         rw [p_] at vZ
         have z3:=k0 (show Kd.R (Kd.int .i64) 2 _ _ _ _ (ai bg ig) from vZ)
         clear p_ vZ
         have auE:=k0 wN
         clear Az G2
         have FI:=k0 AE
         have So:=k0 AL
         clear AE AL
         replace qR:=eT qR
         replace pR:=eT pR
         have Qv:0≤(ig:Int):=oD
         have QW:(ig:Int) < ((bg.length:Int):Int):=oD
         obtain ⟨jW,tr,Vg,VM,afP,aow,Sy⟩:=Kd.TM aq.z (by omega)
         (first|cases Vg|(injection Vg with atd atk dM;(first|subst atd|(injection atd with atd;subst atd));subst dM;clear atk))
         have amm:=k0 VM
         have aaS:=k0 Sy
         clear VM afP Sy
         (first|simp only [add_plain] at auS|skip)
         (first|simp only [add_plain] at wN|skip)
         obtain ⟨_,aoi,agF,af2,Ws,WT,_,_⟩:=Kd.TL aq.z [] (ig:Int) Qv QW
         obtain ⟨asE,rfl,ao0⟩:=af2
         have X9:=Ws 0 _ rfl
         have WQ:=WT 0
         (try simp only [show ((Kd.slice 2 (Kd.int .i64))).sz=1 from rfl,Nat.mul_one,Nat.add_zero] at X9)
         (try simp only [show ((Kd.slice 2 (Kd.int .i64))).sz=1 from rfl,Nat.mul_one,Nat.add_zero] at WQ)
         clear agF Ws WT
         replace Qv:=eT Qv
         replace QW:=eT QW
         have DU:=acQ aq.z (ig:Int) (ath:Int) oD (by have h_:(ig:Int) < ((bg.length:Int):Int):=oD;first|exact h_|(have e_:=(Kd.as4 aq.z).1;omega)|simpa using h_) oD (by have h_:(ath:Int) < ((bg.length:Int):Int):=oD;first|exact h_|(have e_:=(Kd.as4 aq.z).1;omega)|simpa using h_) (by first|exact auE.z|simpa only [add_plain,o8,Nat.mul_one,Nat.zero_add,Nat.add_zero] using auE.z) (by first|exact z9.z|simpa only [add_plain,o8,Nat.mul_one,Nat.zero_add,Nat.add_zero] using z9.z)
         obtain ⟨ahB,agY⟩:=acM aq.z (ig:Int) (ath:Int) oD (by have h_:(ig:Int) < ((bg.length:Int):Int):=oD;first|exact h_|(have e_:=(Kd.as4 aq.z).1;omega)|simpa using h_) oD (by have h_:(ath:Int) < ((bg.length:Int):Int):=oD;first|exact h_|(have e_:=(Kd.as4 aq.z).1;omega)|simpa using h_) (by first|exact z9.z|simpa only [add_plain,o8,Nat.mul_one,Nat.zero_add,Nat.add_zero] using z9.z)
         have FG:=k0 DU.1
         (have h_:=FG.out;rw [← D4.z] at h_;have S0:=k0 h_;clear h_ FG;have FG:=S0;clear S0)
         clear DU
         refine atG (n:=16) (S:=fun w'=>w'.cell? ⟨jW,(ath).toNat,none⟩=some (.slice LW (ai bg ath).length NT)∧w'.cell? ⟨jW,(ig).toNat,none⟩=some (.slice LX (ai bg ig).length JN)) (ds:=[13,15]) (ba 16 0) (by kernel_rfl) rfl rfl ⟨auS,wN⟩ (fun hHeld=>?_);refine jX ata.akC ata.adw (fun aj bP=>?_)
         generalize wc.drew=w36 at aq HB aaS SH z3 FG S3 FI z9 auE WQ agY auS wN X9 ahB hHeld ⊢
         refine pu 0 (some 74) (ba 16 1) aj (h:=?_)
         refine pu 1 (some 75) (ba 16 3) aj (h:=?_)
         refine pu 2 (some 76) (ba 16 7) aj (h:=?_)
         refine pu 3 (some 77) (ba 16 15) aj (h:=?_)
         refine pu 4 (some 78) (ba 16 31) aj (h:=?_)
         refine pu 5 (some 79) (ba 16 63) aj (h:=?_)
         refine pu 6 (some 80) (ba 16 127) aj (h:=?_)
         refine pu 8 (some 82) (ba 16 383) aj (h:=?_)
         refine pu 9 (some 83) (ba 16 895) aj (h:=?_)
         refine pu 10 (some 84) (ba 16 1919) aj (h:=?_)
         refine t_ 7 (some 81) (ba 16 2047) aj bP hHeld (h:=?_)
         refine t_ 11 (some 85) (ba 16 4095) aj bP hHeld (h:=?_)
         refine pu 12 (some 86) (ba 16 8191) aj (h:=?_)
         refine oK (i:=13) (N:=none) (ba 16 16383) rfl rfl (atq aj.out (by kernel_rfl)) (by decide) (fun K hK=>?_)
         refine lf (w1:=?_) (by rfl) rfl ?_ ?_
         rotate_left;· go_simp;rfl
         refine hK.out _ _ ?_
         clear hK K
         refine pu 14 (some 87) (ba 16 32767) aj (h:=?_)
         refine oK (i:=15) (N:=none) (ba 16 65535) rfl rfl (atq aj.out (by kernel_rfl)) (by decide) (fun K hK=>?_)
         refine lf (w1:=?_) (by rfl) rfl ?_ ?_
         rotate_left;· go_simp;rfl
         refine hK.out _ _ ?_
         clear hK K
         refine gY (jU aj.out (by kernel_rfl)) ?_
         try go_wp2
         go_loopg [90] ES (fun kq v90 w'=>∃ (atv:List (List Int)) (dr:Int),v90=.int .i64 dr∧af (ata.l4 kq a1 atv (l0.length:Int) ath ig (bg.length:Int) dr=some r)∧af (kq≤ES)∧af (Kd.S (Kd.slice 2 (Kd.int .i64)) 29 w' w.heap.size (fun _=>True) (.slice (some ⟨jW,0,none⟩) bg.length avs) atv)∧af (Below w.heap.size w w'))
         case atStart=>exact ⟨(Dk),(0),rs,H',⟨Nat.le_refl _⟩,⟨aS (FG.out)⟩,⟨aL HB.z⟩⟩
         case round =>
          clear H'
          obtain ⟨atv,dr,rfl,HA,aty,aq,HB⟩:=hrel
          have iA:=(Kd.as4 aq.z).1
          rw [iA] at aq
          (try simp only [iA])
          cases gk with
          | zero=>exact absurd HA.z (by simp [ata.l4])
          | succ k4 =>
           have H:=HA.z
           clear HA
           simp only [ata.l4] at H
           by_cases c39:dr < (bg.length:Int)
           case neg =>
            rw [if_neg c39] at H
            have vT:=decide_eq_false c39
            (try simp only [iA] at vT)
            clear c39
            replace H:=iS H;obtain ⟨c53,H⟩:=H
            have Ux:=decide_eq_true c53
            clear c53
            replace H:=iS H;obtain ⟨c54,H⟩:=H
            have Uy:=decide_eq_true c54
            (try simp only [iA] at Uy)
            clear c54
            obtain ⟨jI,jG⟩:∃ j_:Int,(wrap64 (ath - 1))=j_:=⟨_,rfl⟩
            replace H:(if 0≤(jI) then (if (jI) < ((ai atv ath).length:Int) then ((nX.f k4 (rd (ai atv ath) (jI)) a1).bind fun t135=>(ata.l5 k4 a1 atv (l0.length:Int) ath t135 (wrap64 (ath+1)))) else (none)) else (none))=some r:=by first|(rw [jG] at H;exact H)|(simp only [jG] at H ⊢;exact H)
            have ag8:(IntKind.i64.wrap (ath - 1))=jI:=(bp _).trans jG
            replace H:=iS H;obtain ⟨c56,H⟩:=H
            have anK:=decide_eq_true c56
            clear c56
            replace H:=iS H;obtain ⟨c57,H⟩:=H
            have Uz:=decide_eq_true c57
            (try simp only [iA] at Uz)
            clear c57
            replace H:=bS H;obtain ⟨t135,BB,H⟩:=H
            have H':=k0 H
            clear H
            obtain ⟨tN,tO⟩:=iN ath (atv.length:Int)
            obtain ⟨Ah,aai,adY,e133,wP,Hq,He⟩:=b8 (Kd.as4 aq.z).2.2 ath tN tO
            obtain rfl:(⟨jW,0,none⟩:Addr)=Ah:=(by injection e133)
            obtain ⟨aeN,Pa,O1,GZ⟩:=Kd.att aq.z [] ath tN (by first|exact tO|exact oD|(have e_:=(Kd.as4 aq.z).1;omega))
            obtain ⟨ak5,rfl,Cw⟩:=O1
            have wK:=GZ 0 _ rfl
            rw [Nat.add_zero,show ((Kd.slice 2 (Kd.int .i64))).sz=1 from rfl,Nat.mul_one] at wK
            replace wK:=Option.some.inj (wK.symm.trans wP)
            rw [wK] at Cw
            have abe:=k0 (show Kd.R (Kd.int .i64) 2 _ _ _ _ (ai atv ath) from Cw)
            clear wK Cw
            have abF:=k0 wP
            clear GZ Pa
            (first|simp only [add_plain] at wP|simp only [o8] at wP|simp only [Addr.add,Nat.zero_add] at wP|skip)
            have FJ:=k0 He
            have aa_:=k0 Hq
            clear He Hq
            replace tN:=eT tN
            replace tO:=eT tO
            have C0:0≤((jI):Int):=oD
            have C3:(jI) < ((ai atv ath).length:Int):=oD
            obtain ⟨acZ,e134,ahv⟩:=Kd.bK (by repeat (first|(with_reducible exact FJ.z)|(with_reducible refine Kd.jO ?_ _)|(with_reducible refine Kd.jP ?_ _)|(with_reducible refine Kd.ij ?_)|exact FJ.z)) (jI) C0 C3
            cases e134
            replace C0:=eT C0
            replace C3:=eT C3
            go_wp2_with (first|(refine aT (f:=108) rfl ?_;refine GK (some 129) rfl rfl Try.func108 (by kernel_rfl) rfl #[.int .i64 (rd (ai atv ath) (jI)),.int .i64 a1] rfl (by (try simp only [List.map_toArray,List.map_cons,List.map_nil]);first|done|(simp only [jG];rfl)|rfl|(simp only [List.length_drop,List.length_take];rfl)) ?_;(with_reducible refine (nX.calls k4 (rd (ai atv ath) (jI)) a1 t135 _ BB.z).mono ?_);rintro e w' ⟨rfl,⟨nd,rfl⟩⟩;refine ⟨_,rfl,?_⟩))
            go_loopg [16] k4 (fun kq v16 w'=>∃ (j5:List (List Int)) (bU:Int),v16=.int .i64 bU∧af (ata.l5 kq a1 j5 (l0.length:Int) ath t135 bU=some r)∧af (kq≤k4)∧af (Kd.S (Kd.slice 2 (Kd.int .i64)) 29 w' w.heap.size (fun _=>True) (.slice (some ⟨jW,0,none⟩) atv.length avs) j5)∧af (Below w.heap.size w w'))
            case atStart=>exact ⟨(atv),(wrap64 (ath+1)),rs,H',⟨Nat.le_refl _⟩,⟨by (try simp only [iA]);(with_reducible repeat (first|apply Kd.gQ|apply Kd.atB|apply Kd.dK));exact aq.z⟩,⟨bl⟩⟩
            case round =>
             clear H'
             obtain ⟨j5,bU,rfl,HA,iu,aq,HB⟩:=hrel
             have ki:=(Kd.as4 aq.z).1
             rw [ki] at aq
             (try simp only [ki])
             cases gk with
             | zero=>exact absurd HA.z (by simp [ata.l5])
             | succ k5 =>
              have H:=HA.z
              clear HA
              simp only [ata.l5] at H
              by_cases c59:bU < (l0.length:Int)
              case neg =>
               rw [if_neg c59] at H
               have Er:=decide_eq_false c59
               (try simp only [iA,ki] at Er)
               clear c59
               have H':=k0 H
               clear H
               go_wp2
               (try simp only [← iA,← ki])
               first|go_roundg k5|(simp only [← at6];go_roundg k5)|(simp only [← jG];go_roundg k5)
               case measure=>have:=as3.z;have:=bw.z;have:=rU.out;have:=aty.z;have:=iu.z;omega
               case rel=>exact ⟨(j5),(wrap64 (ath+1)),rs,(by first|exact H'|(rw [at6];exact H')|(rw [jG];exact H')),⟨by have:=as3.z;have:=bw.z;have:=rU.out;have:=aty.z;have:=iu.z;omega⟩,⟨by (try simp only [iA]);(try simp only [ki]);(with_reducible repeat (first|apply Kd.gQ|apply Kd.atB|apply Kd.dK));exact aq.z⟩,⟨bl⟩⟩
              rw [if_pos c59] at H
              have Er:=decide_eq_true c59
              (try simp only [iA,ki] at Er)
              clear c59
              replace H:=iS H;obtain ⟨c60,H⟩:=H
              have Gd:=decide_eq_true c60
              clear c60
              replace H:=iS H;obtain ⟨c61,H⟩:=H
              have aeo:=decide_eq_true c61
              (try simp only [iA,ki] at aeo)
              clear c61
              replace H:(if 0≤(jI) then (if (jI) < ((ai j5 bU).length:Int) then (if a1=0 then (none) else (if (Int.tmod (wrap64 ((rd (ai j5 bU) (jI)) * t135)) a1)=0 then (ata.l5 k5 a1 j5 (l0.length:Int) ath t135 (wrap64 (bU+1))) else (ata.l6 k5 a1 j5 (l0.length:Int) ath t135 bU (Int.tmod (wrap64 ((rd (ai j5 bU) (jI)) * t135)) a1) (l0.length:Int) 0))) else (none)) else (none))=some r:=by first|(rw [jG] at H;exact H)|(simp only [jG] at H ⊢;exact H)
              have ag8:(IntKind.i64.wrap (ath - 1))=jI:=(bp _).trans jG
              replace H:=iS H;obtain ⟨c63,H⟩:=H
              have aeq:=decide_eq_true c63
              clear c63
              replace H:=iS H;obtain ⟨c64,H⟩:=H
              have aer:=decide_eq_true c64
              (try simp only [iA,ki] at aer)
              clear c64
              by_cases c65:a1=0
              case neg =>
               rw [if_neg c65] at H
               have anM:=beq_eq_false_iff_ne.mpr c65
               have anN:=bne_iff_ne.mpr c65
               replace H:=iE H;obtain ⟨c66,aes,aet,H⟩|⟨aes,aet,H⟩:=H
               case inl =>
                have H':=k0 H
                clear H
                obtain ⟨mq,atX⟩:=iN bU (j5.length:Int)
                obtain ⟨avr,LZ,NV,e136,qc,wA,wo⟩:=b8 (Kd.as4 aq.z).2.2 bU mq atX
                obtain rfl:(⟨jW,0,none⟩:Addr)=avr:=(by injection e136)
                obtain ⟨Oe,CF,CA,wh⟩:=Kd.att aq.z [] bU mq (by first|exact atX|exact oD|(have e_:=(Kd.as4 aq.z).1;omega))
                obtain ⟨Rz,rfl,rD⟩:=CA
                have l9:=wh 0 _ rfl
                rw [Nat.add_zero,show ((Kd.slice 2 (Kd.int .i64))).sz=1 from rfl,Nat.mul_one] at l9
                replace l9:=Option.some.inj (l9.symm.trans qc)
                rw [l9] at rD
                have DO:=k0 (show Kd.R (Kd.int .i64) 2 _ _ _ _ (ai j5 bU) from rD)
                clear l9 rD
                have um:=k0 qc
                clear wh CF
                (first|simp only [add_plain] at qc|simp only [o8] at qc|simp only [Addr.add,Nat.zero_add] at qc|skip)
                have xP:=k0 wo
                have Mi:=k0 wA
                clear wo wA
                replace mq:=eT mq
                replace atX:=eT atX
                have oN:0≤((jI):Int):=oD
                have nj:(jI) < ((ai j5 bU).length:Int):=oD
                obtain ⟨F6,e137,CQ⟩:=Kd.bK (by repeat (first|(with_reducible exact xP.z)|(with_reducible refine Kd.jO ?_ _)|(with_reducible refine Kd.jP ?_ _)|(with_reducible refine Kd.ij ?_)|exact xP.z)) (jI) oN nj
                cases e137
                replace oN:=eT oN
                replace nj:=eT nj
                go_wp2
                go_loopg [152] k5 (fun kq Zv w'=>∃ (jZ:List (List Int)) (lM:Int),Zv=.int .i64 lM∧af (ata.l6 kq a1 jZ (l0.length:Int) ath t135 bU (Int.tmod (wrap64 ((rd (ai j5 bU) (jI)) * t135)) a1) (l0.length:Int) lM=some r)∧af (kq≤k5)∧af (Kd.S (Kd.slice 2 (Kd.int .i64)) 29 w' w.heap.size (fun _=>True) (.slice (some ⟨jW,0,none⟩) j5.length avs) jZ)∧af (Below w.heap.size w w'))
                case atStart=>exact ⟨(j5),(0),rs,H',⟨Nat.le_refl _⟩,⟨by (try simp only [iA]);(try simp only [ki]);(with_reducible repeat (first|apply Kd.gQ|apply Kd.atB|apply Kd.dK));exact aq.z⟩,⟨bl⟩⟩
                case round =>
                 clear H'
                 obtain ⟨jZ,lM,rfl,HA,qv,aq,HB⟩:=hrel
                 have oC:=(Kd.as4 aq.z).1
                 rw [oC] at aq
                 (try simp only [oC])
                 cases gk with
                 | zero=>exact absurd HA.z (by simp [ata.l6])
                 | succ k6 =>
                  have H:=HA.z
                  clear HA
                  simp only [ata.l6] at H
                  by_cases c67:lM < (l0.length:Int)
                  case neg =>
                   rw [if_neg c67] at H
                   have N6:=decide_eq_false c67
                   (try simp only [iA,ki,oC] at N6)
                   clear c67
                   have H':=k0 H
                   clear H
                   go_wp2
                   go_loopg [182] k6 (fun kq akW w'=>∃ (atS:List (List Int)) (gq:Int),akW=.int .i64 gq∧af (ata.l7 kq a1 atS (l0.length:Int) ath t135 bU (Int.tmod (wrap64 ((rd (ai j5 bU) (jI)) * t135)) a1) (l0.length:Int) gq=some r)∧af (kq≤k6)∧af (Kd.S (Kd.slice 2 (Kd.int .i64)) 29 w' w.heap.size (fun _=>True) (.slice (some ⟨jW,0,none⟩) jZ.length avs) atS)∧af (Below w.heap.size w w'))
                   case atStart=>exact ⟨(jZ),(0),rs,H',⟨Nat.le_refl _⟩,⟨by (try simp only [iA]);(try simp only [ki]);(try simp only [oC]);(with_reducible repeat (first|apply Kd.gQ|apply Kd.atB|apply Kd.dK));exact aq.z⟩,⟨bl⟩⟩
                   case round =>
                    clear H'
                    obtain ⟨atS,gq,rfl,HA,Jc,aq,HB⟩:=hrel
                    have wB:=(Kd.as4 aq.z).1
                    rw [wB] at aq
                    (try simp only [wB])
                    cases gk with
                    | zero=>exact absurd HA.z (by simp [ata.l7])
                    | succ k7 =>
                     have H:=HA.z
                     clear HA
                     simp only [ata.l7] at H
                     by_cases c80:gq < (l0.length:Int)
                     case neg =>
                      rw [if_neg c80] at H
                      have N_:=decide_eq_false c80
                      (try simp only [iA,ki,oC,wB] at N_)
                      clear c80
                      have H':=k0 H
                      clear H
                      go_wp2
                      (try simp only [← ki,← oC,← wB])
                      first|go_roundg k7|(simp only [← at6];go_roundg k7)|(simp only [← jG];go_roundg k7)
                      case measure=>have:=as3.z;have:=bw.z;have:=rU.out;have:=aty.z;have:=iu.z;have:=qv.z;have:=Jc.z;omega
                      case rel=>exact ⟨(atS),(wrap64 (bU+1)),rs,(by first|exact H'|(rw [at6];exact H')|(rw [jG];exact H')),⟨by have:=as3.z;have:=bw.z;have:=rU.out;have:=aty.z;have:=iu.z;have:=qv.z;have:=Jc.z;omega⟩,⟨by (try simp only [iA]);(try simp only [ki]);(try simp only [oC]);(try simp only [wB]);(with_reducible repeat (first|apply Kd.gQ|apply Kd.atB|apply Kd.dK));exact aq.z⟩,⟨bl⟩⟩
                     rw [if_pos c80] at H
                     have N_:=decide_eq_true c80
                     (try simp only [iA,ki,oC,wB] at N_)
                     clear c80
                     replace H:=iS H;obtain ⟨c81,H⟩:=H
                     have anS:=decide_eq_true c81
                     clear c81
                     replace H:=iS H;obtain ⟨c82,H⟩:=H
                     have aez:=decide_eq_true c82
                     (try simp only [iA,ki,oC,wB] at aez)
                     clear c82
                     replace H:=iS H;obtain ⟨c83,H⟩:=H
                     have anT:=decide_eq_true c83
                     clear c83
                     replace H:=iS H;obtain ⟨c84,H⟩:=H
                     have Oa:=decide_eq_true c84
                     (try simp only [iA,ki,oC,wB] at Oa)
                     clear c84
                     replace H:=iS H;obtain ⟨c85,H⟩:=H
                     have aeA:=decide_eq_true c85
                     clear c85
                     replace H:=iS H;obtain ⟨c86,H⟩:=H
                     have aeB:=decide_eq_true c86
                     (try simp only [iA,ki,oC,wB] at aeB)
                     clear c86
                     by_cases c87:a1=0
                     case neg =>
                      rw [if_neg c87] at H
                      have anV:=beq_eq_false_iff_ne.mpr c87
                      have anW:=bne_iff_ne.mpr c87
                      obtain ⟨RW,Tx⟩:=nY ((ai atS gq).set (ath:Int).toNat (Int.tmod (wrap64 ((rd (ai atS gq) ath)+(wrap64 ((Int.tmod (wrap64 ((rd (ai j5 bU) (jI)) * t135)) a1) * (rd (ai atS gq) bU))))) a1):List Int)
                      replace H:(ata.l7 k7 a1 (atS.set (gq:Int).toNat RW) (l0.length:Int) ath t135 bU (Int.tmod (wrap64 ((rd (ai j5 bU) (jI)) * t135)) a1) (l0.length:Int) (wrap64 (gq+1)))=some r:=rH Tx.z H
                      obtain ⟨Dm,FU⟩:=nY (atS.set (gq:Int).toNat RW:List (List Int))
                      replace H:(ata.l7 k7 a1 Dm (l0.length:Int) ath t135 bU (Int.tmod (wrap64 ((rd (ai j5 bU) (jI)) * t135)) a1) (l0.length:Int) (wrap64 (gq+1)))=some r:=rH FU.z H
                      have H':=k0 H
                      clear H
                      try go_wp2
                      replace aq:=k0 (Kd.dK aq.z);replace HB:=k0 (eZ HB.z)
                      obtain ⟨K3,K_⟩:=iN gq (atS.length:Int)
                      obtain ⟨ac1,alT,NW,e147,zc,XK,Xt⟩:=b8 (Kd.as4 aq.z).2.2 gq K3 K_
                      obtain rfl:(⟨jW,0,none⟩:Addr)=ac1:=(by injection e147)
                      obtain ⟨aoc,agz,agk,Wm⟩:=Kd.att aq.z [] gq K3 (by first|exact K_|exact oD|(have e_:=(Kd.as4 aq.z).1;omega))
                      obtain ⟨asy,rfl,OI⟩:=agk
                      have avD:=Wm 0 _ rfl
                      rw [Nat.add_zero,show ((Kd.slice 2 (Kd.int .i64))).sz=1 from rfl,Nat.mul_one] at avD
                      replace avD:=Option.some.inj (avD.symm.trans zc)
                      rw [avD] at OI
                      have Mw:=k0 (show Kd.R (Kd.int .i64) 2 _ _ _ _ (ai atS gq) from OI)
                      clear avD OI
                      have M6:=k0 zc
                      clear Wm agz
                      (first|simp only [add_plain] at zc|simp only [o8] at zc|simp only [Addr.add,Nat.zero_add] at zc|skip)
                      have abA:=k0 Xt
                      have amW:=k0 XK
                      clear Xt XK
                      replace K3:=eT K3
                      replace K_:=eT K_
                      obtain ⟨K4,La⟩:=iN gq (atS.length:Int)
                      obtain ⟨ac2,alU,anA,e148,AX,XL,Xu⟩:=b8 (Kd.as4 aq.z).2.2 gq K4 La
                      obtain rfl:(⟨jW,0,none⟩:Addr)=ac2:=(by injection e148)
                      obtain ⟨aod,agA,agl,Wn⟩:=Kd.att aq.z [] gq K4 (by first|exact La|exact oD|(have e_:=(Kd.as4 aq.z).1;omega))
                      obtain ⟨asz,rfl,OJ⟩:=agl
                      have avE:=Wn 0 _ rfl
                      rw [Nat.add_zero,show ((Kd.slice 2 (Kd.int .i64))).sz=1 from rfl,Nat.mul_one] at avE
                      replace avE:=Option.some.inj (avE.symm.trans AX)
                      rw [avE] at OJ
                      have abi:=k0 (show Kd.R (Kd.int .i64) 2 _ _ _ _ (ai atS gq) from OJ)
                      clear avE OJ
                      have abJ:=k0 AX
                      clear Wn agA
                      (first|simp only [add_plain] at AX|simp only [o8] at AX|simp only [Addr.add,Nat.zero_add] at AX|skip)
                      have MO:=k0 Xu
                      have amX:=k0 XL
                      clear Xu XL
                      replace K4:=eT K4
                      replace La:=eT La
                      have atd:=Option.some.inj (zc.symm.trans AX)
                      injection atd with atd atk dM
                      subst atd
                      subst dM
                      clear atk
                      obtain ⟨Qm,QJ⟩:=iN ath ((ai atS gq).length:Int)
                      obtain ⟨ac3,e149,PO⟩:=Kd.bK (by repeat (first|(with_reducible exact MO.z)|(with_reducible refine Kd.jO ?_ _)|(with_reducible refine Kd.jP ?_ _)|(with_reducible refine Kd.ij ?_)|exact MO.z)) ath Qm QJ
                      cases e149
                      replace Qm:=eT Qm
                      replace QJ:=eT QJ
                      obtain ⟨K5,Lb⟩:=iN gq (atS.length:Int)
                      obtain ⟨ac4,alV,anB,e150,AY,XM,Xv⟩:=b8 (Kd.as4 aq.z).2.2 gq K5 Lb
                      obtain rfl:(⟨jW,0,none⟩:Addr)=ac4:=(by injection e150)
                      obtain ⟨aof,agB,agm,Wp⟩:=Kd.att aq.z [] gq K5 (by first|exact Lb|exact oD|(have e_:=(Kd.as4 aq.z).1;omega))
                      obtain ⟨asA,rfl,OK⟩:=agm
                      have avF:=Wp 0 _ rfl
                      rw [Nat.add_zero,show ((Kd.slice 2 (Kd.int .i64))).sz=1 from rfl,Nat.mul_one] at avF
                      replace avF:=Option.some.inj (avF.symm.trans AY)
                      rw [avF] at OK
                      have abj:=k0 (show Kd.R (Kd.int .i64) 2 _ _ _ _ (ai atS gq) from OK)
                      clear avF OK
                      have abK:=k0 AY
                      clear Wp agB
                      (first|simp only [add_plain] at AY|simp only [o8] at AY|simp only [Addr.add,Nat.zero_add] at AY|skip)
                      have MP:=k0 Xv
                      have amY:=k0 XM
                      clear Xv XM
                      replace K5:=eT K5
                      replace Lb:=eT Lb
                      have atd:=Option.some.inj (zc.symm.trans AY)
                      injection atd with atd atk dM
                      subst atd
                      subst dM
                      clear atk
                      obtain ⟨Qn,QK⟩:=iN bU ((ai atS gq).length:Int)
                      obtain ⟨ac5,e151,PR⟩:=Kd.bK (by repeat (first|(with_reducible exact MP.z)|(with_reducible refine Kd.jO ?_ _)|(with_reducible refine Kd.jP ?_ _)|(with_reducible refine Kd.ij ?_)|exact MP.z)) bU Qn QK
                      obtain rfl:ac3=ac5:=(by injection e151)
                      replace Qn:=eT Qn
                      replace QK:=eT QK
                      have QB:0≤(ath:Int):=oD
                      have Q2:(ath:Int) < (((ai atS gq).length:Int):Int):=oD
                      obtain ⟨GJ,Ez,Vr,VT,afW,aoD,SF⟩:=Kd.aun Mw.z (by omega)
                      (first|cases Vr|(injection Vr with atd atk dM;(first|subst atd|(injection atd with atd;subst atd));subst dM;clear atk))
                      (first|simp only [add_plain] at PO|skip)
                      have amr:=k0 VT
                      have aaW:=k0 SF
                      clear VT afW SF
                      (first|simp only [add_plain] at PR|skip)
                      obtain ⟨ahF,ag3⟩:=Kd.nA 0 Mw.z (ath:Int) QB Q2
                      replace QB:=eT QB
                      replace Q2:=eT Q2
                      have ahh:(gq:Int) < (atS.length:Int):=(by have h_:(gq:Int) < ((atS.length:Int):Int):=oD;first|exact h_|(have e_:=(Kd.as4 aq.z).1;omega)|simpa only [List.length_set,List.length_set] using h_)
                      obtain ⟨arV,aop,agM,af9,WA,XU,V9⟩:=Kd.vP aq.z [] (gq:Int) oD (by first|exact ahh|(have e_:=(Kd.as4 aq.z).1;omega))
                      obtain ⟨asL,rfl,GG⟩:=af9
                      have KC:=WA 0 _ rfl
                      rw [Nat.add_zero,show ((Kd.slice 2 (Kd.int .i64))).sz=1 from rfl,Nat.mul_one] at KC
                      replace KC:=Option.some.inj (KC.symm.trans M6.z)
                      subst KC
                      clear WA agM
                      replace GG:=(show Kd.R (Kd.int .i64) 2 _ _ _ _ (ai atS gq) from GG)
                      have DZ:=Kd.s8 GG (ath:Int) (Int.tmod (wrap64 ((rd (ai atS gq) ath)+(wrap64 ((Int.tmod (wrap64 ((rd (ai j5 bU) (jI)) * t135)) a1) * (rd (ai atS gq) bU))))) a1)
                      have abN:=k0 (tq DZ.2 M6.z (vV (XU _ (GG.1 _ rfl)).2))
                      rw [← Tx.z] at DZ
                      have anb:=k0 DZ.1
                      have MY:=V9 DZ.2 (fun k_ e_=>by injection e_ with e_;subst e_;exact GG.1 _ rfl) (x':=RW) (Kd.ke DZ.1)
                      rw [← FU.z] at MY
                      have SZ:=k0 MY
                      clear DZ MY V9 XU
                      refine atG (n:=26) (S:=fun w'=>w'.cell? ⟨jW,(gq).toNat,none⟩=some (.slice (some ⟨GJ,0,none⟩) (ai atS gq).length NW)∧w'.cell? ⟨jW,(gq).toNat,none⟩=some (.slice (some ⟨GJ,0,none⟩) (ai atS gq).length NW)∧w'.cell? ⟨GJ,(ath).toNat,none⟩=some (.int .i64 (rd (ai atS gq) ath))∧w'.cell? ⟨jW,(gq).toNat,none⟩=some (.slice (some (⟨GJ,0,none⟩:Addr)) (ai atS gq).length NW)∧w'.cell? ⟨GJ,(bU).toNat,none⟩=some (.int .i64 (rd (ai atS gq) bU))) (ds:=[25]) (ba 26 0) (by kernel_rfl) rfl rfl ⟨zc,AX,PO,AY,PR⟩ (fun hHeld=>?_);refine jX ata.akI ata.adC (fun aj bP=>?_)
                      generalize wr.drew=w89 at aq HB aaW Mw abi abj SZ abA MO MP M6 abJ abK abN ag3 zc AX PO AY PR ahF hHeld ⊢
                      refine pu 0 (some 185) (ba 26 1) aj (h:=?_)
                      refine pu 1 (some 186) (ba 26 3) aj (h:=?_)
                      refine pu 2 (some 187) (ba 26 7) aj (h:=?_)
                      refine pu 4 (some 189) (ba 26 23) aj (h:=?_)
                      refine pu 5 (some 190) (ba 26 55) aj (h:=?_)
                      refine pu 6 (some 191) (ba 26 119) aj (h:=?_)
                      refine pu 7 (some 192) (ba 26 247) aj (h:=?_)
                      refine pu 9 (some 194) (ba 26 759) aj (h:=?_)
                      refine pu 12 (some 197) (ba 26 4855) aj (h:=?_)
                      refine pu 13 (some 198) (ba 26 13047) aj (h:=?_)
                      refine pu 14 (some 199) (ba 26 29431) aj (h:=?_)
                      refine pu 15 (some 200) (ba 26 62199) aj (h:=?_)
                      refine pu 17 (some 202) (ba 26 193271) aj (h:=?_)
                      refine pu 22 (some 207) (ba 26 4387575) aj (h:=?_)
                      refine pV 3 (some 188) (ba 26 4387583) aj bP hHeld (h:=?_)
                      refine pV 8 (some 193) (ba 26 4387839) aj bP hHeld (h:=?_)
                      refine pu 10 (some 195) (ba 26 4388863) aj (h:=?_)
                      refine pV 11 (some 196) (ba 26 4390911) aj bP hHeld (h:=?_)
                      refine pV 16 (some 201) (ba 26 4456447) aj bP hHeld (h:=?_)
                      refine pu 18 (some 203) (ba 26 4718591) aj (h:=?_)
                      refine pV 19 (some 204) (ba 26 5242879) aj bP hHeld (h:=?_)
                      refine pu 20 (some 205) (ba 26 6291455) aj (h:=?_)
                      refine pu 21 (some 206) (ba 26 8388607) aj (h:=?_)
                      refine pu 23 (some 208) (ba 26 16777215) aj (h:=?_)
                      refine pu 24 (some 209) (ba 26 33554431) aj (h:=?_)
                      refine oK (i:=25) (N:=none) (ba 26 67108863) rfl rfl (atq aj.out (by kernel_rfl)) (by decide) (fun K hK=>?_)
                      refine lf (w1:=?_) (by rfl) rfl ?_ ?_
                      rotate_left;· go_simp;rfl
                      refine hK.out _ _ ?_
                      clear hK K
                      refine gY (jU aj.out (by kernel_rfl)) ?_
                      try go_wp2
                      (try simp only [← wB])
                      first|go_roundg k7|(simp only [← at6];go_roundg k7)|(simp only [← jG];go_roundg k7)
                      case measure=>have:=as3.z;have:=bw.z;have:=rU.out;have:=aty.z;have:=iu.z;have:=qv.z;have:=Jc.z;omega
                      case rel=>exact ⟨(Dm),(wrap64 (gq+1)),rs,(by first|exact H'|(rw [at6];exact H')|(rw [jG];exact H')),⟨by have:=as3.z;have:=bw.z;have:=rU.out;have:=aty.z;have:=iu.z;have:=qv.z;have:=Jc.z;omega⟩,⟨by (try simp only [iA]);(try simp only [ki]);(try simp only [oC]);(try simp only [wB]);(with_reducible repeat (first|apply Kd.gQ|apply Kd.atB|apply Kd.dK));exact SZ.out⟩,⟨aL HB.z⟩⟩
                     rw [if_pos c87] at H
                     exact absurd H (by simp)
                  rw [if_pos c67] at H
                  have N6:=decide_eq_true c67
                  (try simp only [iA,ki,oC] at N6)
                  clear c67
                  replace H:=iS H;obtain ⟨c68,H⟩:=H
                  have anO:=decide_eq_true c68
                  clear c68
                  replace H:=iS H;obtain ⟨c69,H⟩:=H
                  have aeu:=decide_eq_true c69
                  (try simp only [iA,ki,oC] at aeu)
                  clear c69
                  replace H:=iS H;obtain ⟨c70,H⟩:=H
                  have anP:=decide_eq_true c70
                  clear c70
                  replace H:=iS H;obtain ⟨c71,H⟩:=H
                  have N7:=decide_eq_true c71
                  (try simp only [iA,ki,oC] at N7)
                  clear c71
                  replace H:=iS H;obtain ⟨c72,H⟩:=H
                  have anQ:=decide_eq_true c72
                  clear c72
                  replace H:=iS H;obtain ⟨c73,H⟩:=H
                  have Ck:=decide_eq_true c73
                  (try simp only [iA,ki,oC] at Ck)
                  clear c73
                  replace H:=iS H;obtain ⟨c74,H⟩:=H
                  have aex:=decide_eq_true c74
                  (try simp only [iA,ki,oC] at aex)
                  clear c74
                  replace H:=bS H;obtain ⟨t143,A75,H⟩:=H
                  obtain ⟨RV,Tu⟩:=nY ((ai jZ bU).set (lM:Int).toNat t143:List Int)
                  replace H:(ata.l6 k6 a1 (jZ.set (bU:Int).toNat RV) (l0.length:Int) ath t135 bU (Int.tmod (wrap64 ((rd (ai j5 bU) (jI)) * t135)) a1) (l0.length:Int) (wrap64 (lM+1)))=some r:=rH Tu.z H
                  obtain ⟨Z_,Tv⟩:=nY (jZ.set (bU:Int).toNat RV:List (List Int))
                  replace H:(ata.l6 k6 a1 Z_ (l0.length:Int) ath t135 bU (Int.tmod (wrap64 ((rd (ai j5 bU) (jI)) * t135)) a1) (l0.length:Int) (wrap64 (lM+1)))=some r:=rH Tv.z H
                  have H':=k0 H
                  clear H
                  try go_wp2
                  replace aq:=k0 (Kd.dK aq.z);replace HB:=k0 (eZ HB.z)
                  obtain ⟨Ba,Bi⟩:=iN bU (jZ.length:Int)
                  obtain ⟨T_,alP,Ur,e138,zb,XG,Xo⟩:=b8 (Kd.as4 aq.z).2.2 bU Ba Bi
                  obtain rfl:(⟨jW,0,none⟩:Addr)=T_:=(by injection e138)
                  obtain ⟨an',agv,agf,Wi⟩:=Kd.att aq.z [] bU Ba (by first|exact Bi|exact oD|(have e_:=(Kd.as4 aq.z).1;omega))
                  obtain ⟨asu,rfl,OD⟩:=agf
                  have HE:=Wi 0 _ rfl
                  rw [Nat.add_zero,show ((Kd.slice 2 (Kd.int .i64))).sz=1 from rfl,Nat.mul_one] at HE
                  replace HE:=Option.some.inj (HE.symm.trans zb)
                  rw [HE] at OD
                  have Mv:=k0 (show Kd.R (Kd.int .i64) 2 _ _ _ _ (ai jZ bU) from OD)
                  clear HE OD
                  have M5:=k0 zb
                  clear Wi agv
                  (first|simp only [add_plain] at zb|simp only [o8] at zb|simp only [Addr.add,Nat.zero_add] at zb|skip)
                  have abz:=k0 Xo
                  have amS:=k0 XG
                  clear Xo XG
                  replace Ba:=eT Ba
                  replace Bi:=eT Bi
                  obtain ⟨Bb,Bj⟩:=iN bU (jZ.length:Int)
                  obtain ⟨NF,alQ,anz,e139,uN,XH,Xp⟩:=b8 (Kd.as4 aq.z).2.2 bU Bb Bj
                  obtain rfl:(⟨jW,0,none⟩:Addr)=NF:=(by injection e139)
                  obtain ⟨an_,agw,agh,Wj⟩:=Kd.att aq.z [] bU Bb (by first|exact Bj|exact oD|(have e_:=(Kd.as4 aq.z).1;omega))
                  obtain ⟨asv,rfl,OE⟩:=agh
                  have avB:=Wj 0 _ rfl
                  rw [Nat.add_zero,show ((Kd.slice 2 (Kd.int .i64))).sz=1 from rfl,Nat.mul_one] at avB
                  replace avB:=Option.some.inj (avB.symm.trans uN)
                  rw [avB] at OE
                  have abf:=k0 (show Kd.R (Kd.int .i64) 2 _ _ _ _ (ai jZ bU) from OE)
                  clear avB OE
                  have abG:=k0 uN
                  clear Wj agw
                  (first|simp only [add_plain] at uN|simp only [o8] at uN|simp only [Addr.add,Nat.zero_add] at uN|skip)
                  have ML:=k0 Xp
                  have amT:=k0 XH
                  clear Xp XH
                  replace Bb:=eT Bb
                  replace Bj:=eT Bj
                  have atd:=Option.some.inj (zb.symm.trans uN)
                  injection atd with atd atk dM
                  subst atd
                  subst dM
                  clear atk
                  obtain ⟨uW,uZ⟩:=iN lM ((ai jZ bU).length:Int)
                  obtain ⟨Ef,e140,tI⟩:=Kd.bK (by repeat (first|(with_reducible exact ML.z)|(with_reducible refine Kd.jO ?_ _)|(with_reducible refine Kd.jP ?_ _)|(with_reducible refine Kd.ij ?_)|exact ML.z)) lM uW uZ
                  cases e140
                  replace uW:=eT uW
                  replace uZ:=eT uZ
                  obtain ⟨uX,u_⟩:=iN ath (jZ.length:Int)
                  obtain ⟨Eg,alS,ad2,e141,tJ,XJ,Xr⟩:=b8 (Kd.as4 aq.z).2.2 ath uX u_
                  obtain rfl:(⟨jW,0,none⟩:Addr)=Eg:=(by injection e141)
                  obtain ⟨aob,agy,agj,Wl⟩:=Kd.att aq.z [] ath uX (by first|exact u_|exact oD|(have e_:=(Kd.as4 aq.z).1;omega))
                  obtain ⟨asx,rfl,OH⟩:=agj
                  have HH:=Wl 0 _ rfl
                  rw [Nat.add_zero,show ((Kd.slice 2 (Kd.int .i64))).sz=1 from rfl,Nat.mul_one] at HH
                  replace HH:=Option.some.inj (HH.symm.trans tJ)
                  rw [HH] at OH
                  have abh:=k0 (show Kd.R (Kd.int .i64) 2 _ _ _ _ (ai jZ ath) from OH)
                  clear HH OH
                  have abI:=k0 tJ
                  clear Wl agy
                  (first|simp only [add_plain] at tJ|simp only [o8] at tJ|simp only [Addr.add,Nat.zero_add] at tJ|skip)
                  have MN:=k0 Xr
                  have amV:=k0 XJ
                  clear Xr XJ
                  replace uX:=eT uX
                  replace u_:=eT u_
                  obtain ⟨C1,C4⟩:=iN lM ((ai jZ ath).length:Int)
                  obtain ⟨JF,e142,avJ⟩:=Kd.bK (by repeat (first|(with_reducible exact MN.z)|(with_reducible refine Kd.jO ?_ _)|(with_reducible refine Kd.jP ?_ _)|(with_reducible refine Kd.ij ?_)|exact MN.z)) lM C1 C4
                  cases e142
                  replace C1:=eT C1
                  replace C4:=eT C4
                  refine atG (n:=26) (S:=fun w'=>w'.cell? ⟨jW,(bU).toNat,none⟩=some (.slice (some Ef) (ai jZ bU).length Ur)∧w'.cell? ⟨jW,(bU).toNat,none⟩=some (.slice (some Ef) (ai jZ bU).length Ur)∧w'.cell? (Ef.add (lM).toNat)=some (.int .i64 (rd (ai jZ bU) lM))∧w'.cell? ⟨jW,(ath).toNat,none⟩=some (.slice (some JF) (ai jZ ath).length ad2)∧w'.cell? (JF.add (lM).toNat)=some (.int .i64 (rd (ai jZ ath) lM))) (ds:=[25]) (ba 26 0) (by kernel_rfl) rfl rfl ⟨zb,uN,tI,tJ,avJ⟩ (fun hHeld=>?_);refine jX ata.akH ata.adB (fun aj bP=>?_)
                  generalize wr.drew=w77 at aq HB Mv abf abh abz ML MN M5 abG abI zb uN tI tJ avJ hHeld ⊢
                  refine pu 0 (some 155) (ba 26 1) aj (h:=?_)
                  refine pu 1 (some 156) (ba 26 3) aj (h:=?_)
                  refine pu 2 (some 157) (ba 26 7) aj (h:=?_)
                  refine pu 4 (some 159) (ba 26 23) aj (h:=?_)
                  refine pu 5 (some 160) (ba 26 55) aj (h:=?_)
                  refine pu 6 (some 161) (ba 26 119) aj (h:=?_)
                  refine pu 7 (some 162) (ba 26 247) aj (h:=?_)
                  refine pu 9 (some 164) (ba 26 759) aj (h:=?_)
                  refine pu 12 (some 167) (ba 26 4855) aj (h:=?_)
                  refine pu 13 (some 168) (ba 26 13047) aj (h:=?_)
                  refine pu 14 (some 169) (ba 26 29431) aj (h:=?_)
                  refine pu 15 (some 170) (ba 26 62199) aj (h:=?_)
                  refine pu 17 (some 172) (ba 26 193271) aj (h:=?_)
                  refine pu 22 (some 177) (ba 26 4387575) aj (h:=?_)
                  refine pV 3 (some 158) (ba 26 4387583) aj bP hHeld (h:=?_)
                  refine pV 8 (some 163) (ba 26 4387839) aj bP hHeld (h:=?_)
                  refine pu 10 (some 165) (ba 26 4388863) aj (h:=?_)
                  refine pV 11 (some 166) (ba 26 4390911) aj bP hHeld (h:=?_)
                  refine pV 16 (some 171) (ba 26 4456447) aj bP hHeld (h:=?_)
                  refine pu 18 (some 173) (ba 26 4718591) aj (h:=?_)
                  refine pV 19 (some 174) (ba 26 5242879) aj bP hHeld (h:=?_)
                  refine pu 20 (some 175) (ba 26 6291455) aj (h:=?_)
                  refine pu 21 (some 176) (ba 26 8388607) aj (h:=?_)
                  refine atw (i:=23) (N:=some 178) (ba 26 16777215) rfl rfl (atq aj.out (by kernel_rfl)) (by decide) (fun K hK=>?_)
                  refine mI Try.func86 (by kernel_rfl) rfl #[.int .i64 (wrap64 ((rd (ai jZ bU) lM) - (wrap64 ((Int.tmod (wrap64 ((rd (ai j5 bU) (jI)) * t135)) a1) * (rd (ai jZ ath) lM))))),.int .i64 a1] (by rfl) rfl rfl (by (try simp only [List.map_toArray,List.map_cons,List.map_nil]);first|done|(simp only [jG];rfl)|rfl|(simp only [List.length_drop,List.length_take];rfl)) ?_
                  with_reducible refine (nZ.calls (wrap64 ((rd (ai jZ bU) lM) - (wrap64 ((Int.tmod (wrap64 ((rd (ai j5 bU) (jI)) * t135)) a1) * (rd (ai jZ ath) lM))))) a1 t143 _ A75.z).mono ?_
                  rintro e w' ⟨rfl,⟨nd,rfl⟩⟩
                  refine ⟨_,rfl,?_⟩
                  have QA:0≤(lM:Int):=oD
                  have Q1:(lM:Int) < (((ai jZ bU).length:Int):Int):=oD
                  obtain ⟨ao1,aoZ,Vq,VS,afV,aoC,SE⟩:=Kd.aun Mv.z (by omega)
                  (first|cases Vq|(injection Vq with atd atk dM;(first|subst atd|(injection atd with atd;subst atd));subst dM;clear atk))
                  (first|simp only [add_plain] at tI|skip)
                  have amq:=k0 VS
                  have amF:=k0 SE
                  clear VS afV SE
                  (first|simp only [add_plain] at tI|skip)
                  obtain ⟨arJ,apz⟩:=Kd.nA 0 Mv.z (lM:Int) QA Q1
                  replace QA:=eT QA
                  replace Q1:=eT Q1
                  have ahg:(bU:Int) < (jZ.length:Int):=(by have h_:(bU:Int) < ((jZ.length:Int):Int):=oD;first|exact h_|(have e_:=(Kd.as4 aq.z).1;omega)|simpa only [List.length_set,List.length_set] using h_)
                  obtain ⟨arU,aoo,agL,af8,Wz,XT,V8⟩:=Kd.vP aq.z [] (bU:Int) oD (by first|exact ahg|(have e_:=(Kd.as4 aq.z).1;omega))
                  obtain ⟨asK,rfl,GF⟩:=af8
                  have KB:=Wz 0 _ rfl
                  rw [Nat.add_zero,show ((Kd.slice 2 (Kd.int .i64))).sz=1 from rfl,Nat.mul_one] at KB
                  replace KB:=Option.some.inj (KB.symm.trans M5.z)
                  subst KB
                  clear Wz agL
                  replace GF:=(show Kd.R (Kd.int .i64) 2 _ _ _ _ (ai jZ bU) from GF)
                  have DY:=Kd.s8 GF (lM:Int) t143
                  have anh:=k0 (tq DY.2 M5.z (vV (XT _ (GF.1 _ rfl)).2))
                  rw [← Tu.z] at DY
                  have ana:=k0 DY.1
                  have MX:=V8 DY.2 (fun k_ e_=>by injection e_ with e_;subst e_;exact GF.1 _ rfl) (x':=RV) (Kd.ke DY.1)
                  rw [← Tv.z] at MX
                  have abu:=k0 MX
                  clear DY MX V8 XT
                  refine hK.out _ _ ⟨hHeld.1,hHeld.2.1,hHeld.2.2.1,hHeld.2.2.2.1,hHeld.2.2.2.2⟩ (fun hHeld=>?_)
                  clear hK K
                  refine hJ (a':=?_) ?_ ?_
                  rotate_left;· show Act.put _ (some 178) _=_;simp only [Act.put,zI,zZ,zS,bp,bH];rfl
                  refine pu 24 (some 179) (ba 26 33554431) aj (h:=?_)
                  refine oK (i:=25) (N:=none) (ba 26 67108863) rfl rfl (atq aj.out (by kernel_rfl)) (by decide) (fun K hK=>?_)
                  refine lf (w1:=?_) (by rfl) rfl ?_ ?_
                  rotate_left;· go_simp;rfl
                  refine hK.out _ _ ?_
                  clear hK K
                  refine gY (jU aj.out (by kernel_rfl)) ?_
                  try go_wp2
                  (try simp only [← oC])
                  first|go_roundg k6|(simp only [← at6];go_roundg k6)|(simp only [← jG];go_roundg k6)
                  case measure=>have:=as3.z;have:=bw.z;have:=rU.out;have:=aty.z;have:=iu.z;have:=qv.z;omega
                  case rel=>exact ⟨(Z_),(wrap64 (lM+1)),rs,(by first|exact H'|(rw [at6];exact H')|(rw [jG];exact H')),⟨by have:=as3.z;have:=bw.z;have:=rU.out;have:=aty.z;have:=iu.z;have:=qv.z;omega⟩,⟨by (try simp only [iA]);(try simp only [ki]);(try simp only [oC]);(with_reducible repeat (first|apply Kd.gQ|apply Kd.atB|apply Kd.dK));exact abu.out⟩,⟨aL HB.z⟩⟩
               have H':=k0 H
               clear H
               obtain ⟨mq,atX⟩:=iN bU (j5.length:Int)
               obtain ⟨avr,LZ,NV,e136,qc,wA,wo⟩:=b8 (Kd.as4 aq.z).2.2 bU mq atX
               obtain rfl:(⟨jW,0,none⟩:Addr)=avr:=(by injection e136)
               obtain ⟨Oe,CF,CA,wh⟩:=Kd.att aq.z [] bU mq (by first|exact atX|exact oD|(have e_:=(Kd.as4 aq.z).1;omega))
               obtain ⟨Rz,rfl,rD⟩:=CA
               have l9:=wh 0 _ rfl
               rw [Nat.add_zero,show ((Kd.slice 2 (Kd.int .i64))).sz=1 from rfl,Nat.mul_one] at l9
               replace l9:=Option.some.inj (l9.symm.trans qc)
               rw [l9] at rD
               have DO:=k0 (show Kd.R (Kd.int .i64) 2 _ _ _ _ (ai j5 bU) from rD)
               clear l9 rD
               have um:=k0 qc
               clear wh CF
               (first|simp only [add_plain] at qc|simp only [o8] at qc|simp only [Addr.add,Nat.zero_add] at qc|skip)
               have xP:=k0 wo
               have Mi:=k0 wA
               clear wo wA
               replace mq:=eT mq
               replace atX:=eT atX
               have oN:0≤((jI):Int):=oD
               have nj:(jI) < ((ai j5 bU).length:Int):=oD
               obtain ⟨F6,e137,CQ⟩:=Kd.bK (by repeat (first|(with_reducible exact xP.z)|(with_reducible refine Kd.jO ?_ _)|(with_reducible refine Kd.jP ?_ _)|(with_reducible refine Kd.ij ?_)|exact xP.z)) (jI) oN nj
               cases e137
               replace oN:=eT oN
               replace nj:=eT nj
               go_wp2
               (try simp only [← ki])
               first|go_roundg k5|(simp only [← at6];go_roundg k5)|(simp only [← jG];go_roundg k5)
               case measure=>have:=as3.z;have:=bw.z;have:=rU.out;have:=aty.z;have:=iu.z;omega
               case rel=>exact ⟨(j5),(wrap64 (bU+1)),rs,(by first|exact H'|(rw [at6];exact H')|(rw [jG];exact H')),⟨by have:=as3.z;have:=bw.z;have:=rU.out;have:=aty.z;have:=iu.z;omega⟩,⟨by (try simp only [iA]);(try simp only [ki]);(with_reducible repeat (first|apply Kd.gQ|apply Kd.atB|apply Kd.dK));exact aq.z⟩,⟨bl⟩⟩
              rw [if_pos c65] at H
              exact absurd H (by simp)
           rw [if_pos c39] at H
           have vT:=decide_eq_true c39
           (try simp only [iA] at vT)
           clear c39
           replace H:=iS H;obtain ⟨c40,H⟩:=H
           have Ci:=decide_eq_true c40
           clear c40
           replace H:=iS H;obtain ⟨c41,H⟩:=H
           have Ep:=decide_eq_true c41
           (try simp only [iA] at Ep)
           clear c41
           replace H:=iS H;obtain ⟨c42,H⟩:=H
           have Cj:=decide_eq_true c42
           clear c42
           replace H:=iS H;obtain ⟨c43,H⟩:=H
           have JR:=decide_eq_true c43
           (try simp only [iA] at JR)
           clear c43
           replace H:=iS H;obtain ⟨c44,H⟩:=H
           have Uu:=decide_eq_true c44
           clear c44
           replace H:=iS H;obtain ⟨c45,H⟩:=H
           have JS:=decide_eq_true c45
           (try simp only [iA] at JS)
           clear c45
           obtain ⟨rR,D5⟩:=nY ((ai atv dr).set (ig:Int).toNat (rd (ai atv dr) ath):List Int)
           replace H:(ata.l4 k4 a1 ((atv.set (dr:Int).toNat rR).set (dr:Int).toNat (rR.set (ath:Int).toNat (rd (ai atv dr) ig))) (l0.length:Int) ath ig (bg.length:Int) (wrap64 (dr+1)))=some r:=rH D5.z H
           obtain ⟨LP,FR⟩:=nY (atv.set (dr:Int).toNat rR:List (List Int))
           replace H:(ata.l4 k4 a1 (LP.set (dr:Int).toNat (rR.set (ath:Int).toNat (rd (ai atv dr) ig))) (l0.length:Int) ath ig (bg.length:Int) (wrap64 (dr+1)))=some r:=rH FR.z H
           obtain ⟨nU,vM⟩:=nY (rR.set (ath:Int).toNat (rd (ai atv dr) ig):List Int)
           replace H:(ata.l4 k4 a1 (LP.set (dr:Int).toNat nU) (l0.length:Int) ath ig (bg.length:Int) (wrap64 (dr+1)))=some r:=rH vM.z H
           obtain ⟨Z7,Tp⟩:=nY (LP.set (dr:Int).toNat nU:List (List Int))
           replace H:(ata.l4 k4 a1 Z7 (l0.length:Int) ath ig (bg.length:Int) (wrap64 (dr+1)))=some r:=rH Tp.z H
           have H':=k0 H
           clear H
           try go_wp2
           replace aq:=k0 (Kd.dK aq.z);replace HB:=k0 (eZ HB.z)
           obtain ⟨mo,ko⟩:=iN dr (atv.length:Int)
           obtain ⟨B7,IY,Ao,e121,oF,wz,wm⟩:=b8 (Kd.as4 aq.z).2.2 dr mo ko
           obtain rfl:(⟨jW,0,none⟩:Addr)=B7:=(by injection e121)
           obtain ⟨Od,CE,Cz,wg⟩:=Kd.att aq.z [] dr mo (by first|exact ko|exact oD|(have e_:=(Kd.as4 aq.z).1;omega))
           obtain ⟨Ry,rfl,rC⟩:=Cz
           have l8:=wg 0 _ rfl
           rw [Nat.add_zero,show ((Kd.slice 2 (Kd.int .i64))).sz=1 from rfl,Nat.mul_one] at l8
           replace l8:=Option.some.inj (l8.symm.trans oF)
           rw [l8] at rC
           have pX:=k0 (show Kd.R (Kd.int .i64) 2 _ _ _ _ (ai atv dr) from rC)
           clear l8 rC
           have rm:=k0 oF
           clear wg CE
           (first|simp only [add_plain] at oF|simp only [o8] at oF|simp only [Addr.add,Nat.zero_add] at oF|skip)
           have yJ:=k0 wm
           have Mh:=k0 wz
           clear wm wz
           replace mo:=eT mo
           replace ko:=eT ko
           obtain ⟨mN,kL⟩:=iN dr (atv.length:Int)
           obtain ⟨Ed,LY,NU,e122,oG,AM,AF⟩:=b8 (Kd.as4 aq.z).2.2 dr mN kL
           obtain rfl:(⟨jW,0,none⟩:Addr)=Ed:=(by injection e122)
           obtain ⟨UB,G3,GO,AA⟩:=Kd.att aq.z [] dr mN (by first|exact kL|exact oD|(have e_:=(Kd.as4 aq.z).1;omega))
           obtain ⟨Zy,rfl,auM⟩:=GO
           have qa:=AA 0 _ rfl
           rw [Nat.add_zero,show ((Kd.slice 2 (Kd.int .i64))).sz=1 from rfl,Nat.mul_one] at qa
           replace qa:=Option.some.inj (qa.symm.trans oG)
           rw [qa] at auM
           have DN:=k0 (show Kd.R (Kd.int .i64) 2 _ _ _ _ (ai atv dr) from auM)
           clear qa auM
           have uk:=k0 oG
           clear AA G3
           (first|simp only [add_plain] at oG|simp only [o8] at oG|simp only [Addr.add,Nat.zero_add] at oG|skip)
           have z8:=k0 AF
           have Sp:=k0 AM
           clear AF AM
           replace mN:=eT mN
           replace kL:=eT kL
           have atd:=Option.some.inj (oF.symm.trans oG)
           injection atd with atd atk dM
           subst atd
           subst dM
           clear atk
           obtain ⟨A_,Bg⟩:=iN dr (atv.length:Int)
           obtain ⟨avX,alM,ant,e123,za,XC,Xk⟩:=b8 (Kd.as4 aq.z).2.2 dr A_ Bg
           obtain rfl:(⟨jW,0,none⟩:Addr)=avX:=(by injection e123)
           obtain ⟨an8,agt,agd,Wg⟩:=Kd.att aq.z [] dr A_ (by first|exact Bg|exact oD|(have e_:=(Kd.as4 aq.z).1;omega))
           obtain ⟨ass,rfl,OB⟩:=agd
           have avz:=Wg 0 _ rfl
           rw [Nat.add_zero,show ((Kd.slice 2 (Kd.int .i64))).sz=1 from rfl,Nat.mul_one] at avz
           replace avz:=Option.some.inj (avz.symm.trans za)
           rw [avz] at OB
           have abd:=k0 (show Kd.R (Kd.int .i64) 2 _ _ _ _ (ai atv dr) from OB)
           clear avz OB
           have abE:=k0 za
           clear Wg agt
           (first|simp only [add_plain] at za|simp only [o8] at za|simp only [Addr.add,Nat.zero_add] at za|skip)
           have MJ:=k0 Xk
           have amO:=k0 XC
           clear Xk XC
           replace A_:=eT A_
           replace Bg:=eT Bg
           have atd:=Option.some.inj (oF.symm.trans za)
           injection atd with atd atk dM
           subst atd
           subst dM
           clear atk
           obtain ⟨auU,auY⟩:=iN ath ((ai atv dr).length:Int)
           obtain ⟨Ag,e124,uM⟩:=Kd.bK (by repeat (first|(with_reducible exact MJ.z)|(with_reducible refine Kd.jO ?_ _)|(with_reducible refine Kd.jP ?_ _)|(with_reducible refine Kd.ij ?_)|exact MJ.z)) ath auU auY
           cases e124
           replace auU:=eT auU
           replace auY:=eT auY
           obtain ⟨zk,zn⟩:=iN dr (atv.length:Int)
           obtain ⟨ND,aah,Uq,e125,tH,Hp,G_⟩:=b8 (Kd.as4 aq.z).2.2 dr zk zn
           obtain rfl:(⟨jW,0,none⟩:Addr)=ND:=(by injection e125)
           obtain ⟨aeM,O_,O0,GY⟩:=Kd.att aq.z [] dr zk (by first|exact zn|exact oD|(have e_:=(Kd.as4 aq.z).1;omega))
           obtain ⟨ak4,rfl,Cv⟩:=O0
           have wJ:=GY 0 _ rfl
           rw [Nat.add_zero,show ((Kd.slice 2 (Kd.int .i64))).sz=1 from rfl,Nat.mul_one] at wJ
           replace wJ:=Option.some.inj (wJ.symm.trans tH)
           rw [wJ] at Cv
           have Mu:=k0 (show Kd.R (Kd.int .i64) 2 _ _ _ _ (ai atv dr) from Cv)
           clear wJ Cv
           have M4:=k0 tH
           clear GY O_
           (first|simp only [add_plain] at tH|simp only [o8] at tH|simp only [Addr.add,Nat.zero_add] at tH|skip)
           have BZ:=k0 G_
           have aa':=k0 Hp
           clear G_ Hp
           replace zk:=eT zk
           replace zn:=eT zn
           have atd:=Option.some.inj (oF.symm.trans tH)
           injection atd with atd atk dM
           subst atd
           subst dM
           clear atk
           obtain ⟨auV,auZ⟩:=iN ig ((ai atv dr).length:Int)
           obtain ⟨Ee,e126,wO⟩:=Kd.bK (by repeat (first|(with_reducible exact BZ.z)|(with_reducible refine Kd.jO ?_ _)|(with_reducible refine Kd.jP ?_ _)|(with_reducible refine Kd.ij ?_)|exact BZ.z)) ig auV auZ
           obtain rfl:Ag=Ee:=(by injection e126)
           replace auV:=eT auV
           replace auZ:=eT auZ
           have yh:0≤(ig:Int):=oD
           have yl:(ig:Int) < (((ai atv dr).length:Int):Int):=oD
           obtain ⟨r9,JY,Gt,Gx,OM,aeW,FA⟩:=Kd.aun pX.z (by omega)
           (first|cases Gt|(injection Gt with atd atk dM;(first|subst atd|(injection atd with atd;subst atd));subst dM;clear atk))
           (first|simp only [add_plain] at uM|skip)
           have Sj:=k0 Gx
           have Sl:=k0 FA
           clear Gx OM FA
           (first|simp only [add_plain] at wO|skip)
           obtain ⟨KH,J_⟩:=Kd.nA 0 pX.z (ig:Int) yh yl
           replace yh:=eT yh
           replace yl:=eT yl
           have ahf:(dr:Int) < (atv.length:Int):=(by have h_:(dr:Int) < ((atv.length:Int):Int):=oD;first|exact h_|(have e_:=(Kd.as4 aq.z).1;omega)|simpa only [List.length_set,List.length_set] using h_)
           obtain ⟨arS,aol,agI,af5,Wv,XR,V6⟩:=Kd.vP aq.z [] (dr:Int) oD (by first|exact ahf|(have e_:=(Kd.as4 aq.z).1;omega))
           obtain ⟨asH,rfl,GD⟩:=af5
           have Kz:=Wv 0 _ rfl
           rw [Nat.add_zero,show ((Kd.slice 2 (Kd.int .i64))).sz=1 from rfl,Nat.mul_one] at Kz
           replace Kz:=Option.some.inj (Kz.symm.trans rm.z)
           subst Kz
           clear Wv agI
           replace GD:=(show Kd.R (Kd.int .i64) 2 _ _ _ _ (ai atv dr) from GD)
           have DW:=Kd.s8 GD (ig:Int) (rd (ai atv dr) ath)
           have M_:=k0 (tq DW.2 rm.z (vV (XR _ (GD.1 _ rfl)).2))
           rw [← D5.z] at DW
           have abn:=k0 DW.1
           have MU:=V6 DW.2 (fun k_ e_=>by injection e_ with e_;subst e_;exact GD.1 _ rfl) (x':=rR) (Kd.ke DW.1)
           rw [← FR.z] at MU
           have MI:=k0 MU
           clear DW MU V6 XR
           have K6:0≤(ath:Int):=oD
           have Lc:(ath:Int) < (((ai atv dr).length:Int):Int):=oD
           obtain ⟨ahD,ag0⟩:=Kd.nA 0 abn.out (ath:Int) K6 Lc
           obtain ⟨ahl,ag1⟩:=Kd.nA 0 pX.z (ath:Int) K6 Lc
           clear ahl
           replace K6:=eT K6
           replace Lc:=eT Lc
           have XV:(dr:Int) < (LP.length:Int):=(by have h_:(dr:Int) < ((atv.length:Int):Int):=oD;first|exact h_|(have e_:=(Kd.as4 aq.z).1;omega)|simpa only [FR.z,List.length_set] using h_)
           obtain ⟨arT,aom,agJ,af6,Ww,XS,V7⟩:=Kd.vP MI.out [] (dr:Int) oD (by first|exact XV|(have e_:=(Kd.as4 MI.out).1;omega))
           obtain ⟨asI,rfl,EB⟩:=af6
           have KA:=Ww 0 _ rfl
           rw [Nat.add_zero,show ((Kd.slice 2 (Kd.int .i64))).sz=1 from rfl,Nat.mul_one] at KA
           replace KA:=Option.some.inj (KA.symm.trans M_.z)
           subst KA
           clear Ww agJ
           have W5:=afH atv ((dr:Int)).toNat rR (by have h_:=XV;rw [FR.z,List.length_set] at h_;have h0_:0≤((dr:Int):Int):=oD;omega)
           rw [← FR.z] at W5
           rw [W5] at EB
           replace EB:=(show Kd.R (Kd.int .i64) 2 _ _ _ _ rR from EB)
           have DX:=Kd.s8 EB (ath:Int) (rd (ai atv dr) ig)
           have abM:=k0 (tq DX.2 M_.z (vV (XS _ (EB.1 _ rfl)).2))
           rw [← vM.z] at DX
           have am_:=k0 DX.1
           have MV:=V7 DX.2 (fun k_ e_=>by injection e_ with e_;subst e_;exact EB.1 _ rfl) (x':=nU) (Kd.ke DX.1)
           rw [← Tp.z] at MV
           have SX:=k0 MV
           clear DX MV V7 XS
           refine atG (n:=28) (S:=fun w'=>w'.cell? ⟨jW,(dr).toNat,none⟩=some (.slice (some ⟨r9,0,none⟩) (ai atv dr).length Ao)∧w'.cell? ⟨jW,(dr).toNat,none⟩=some (.slice (some ⟨r9,0,none⟩) (ai atv dr).length Ao)∧w'.cell? ⟨jW,(dr).toNat,none⟩=some (.slice (some ⟨r9,0,none⟩) (ai atv dr).length Ao)∧w'.cell? ⟨r9,(ath).toNat,none⟩=some (.int .i64 (rd (ai atv dr) ath))∧w'.cell? ⟨jW,(dr).toNat,none⟩=some (.slice (some (⟨r9,0,none⟩:Addr)) (ai atv dr).length Ao)∧w'.cell? ⟨r9,(ig).toNat,none⟩=some (.int .i64 (rd (ai atv dr) ig))) (ds:=[25,27]) (ba 28 0) (by kernel_rfl) rfl rfl ⟨oF,oG,za,uM,tH,wO⟩ (fun hHeld=>?_);refine jX ata.akF ata.adz (fun aj bP=>?_)
           generalize wr.drew=Ly at aq HB Sl pX DN abd Mu MI SX yJ z8 MJ BZ rm uk abE M4 M_ abM J_ ag0 ag1 oF oG za uM tH wO KH ahD hHeld ⊢
           refine pu 0 (some 93) (ba 28 1) aj (h:=?_)
           refine pu 1 (some 94) (ba 28 3) aj (h:=?_)
           refine pu 2 (some 95) (ba 28 7) aj (h:=?_)
           refine pu 4 (some 97) (ba 28 23) aj (h:=?_)
           refine pu 5 (some 98) (ba 28 55) aj (h:=?_)
           refine pu 6 (some 99) (ba 28 119) aj (h:=?_)
           refine pu 7 (some 100) (ba 28 247) aj (h:=?_)
           refine pu 9 (some 102) (ba 28 759) aj (h:=?_)
           refine pu 10 (some 103) (ba 28 1783) aj (h:=?_)
           refine pu 11 (some 104) (ba 28 3831) aj (h:=?_)
           refine pu 12 (some 105) (ba 28 7927) aj (h:=?_)
           refine pu 14 (some 107) (ba 28 24311) aj (h:=?_)
           refine pu 17 (some 110) (ba 28 155383) aj (h:=?_)
           refine pu 18 (some 111) (ba 28 417527) aj (h:=?_)
           refine pu 19 (some 112) (ba 28 941815) aj (h:=?_)
           refine pu 21 (some 114) (ba 28 3038967) aj (h:=?_)
           refine Fk 3 (some 96) (ba 28 3038975) aj bP hHeld (h:=?_)
           refine Fk 8 (some 101) (ba 28 3039231) aj bP hHeld (h:=?_)
           refine Fk 13 (some 106) (ba 28 3047423) aj bP hHeld (h:=?_)
           refine pu 15 (some 108) (ba 28 3080191) aj (h:=?_)
           refine Fk 16 (some 109) (ba 28 3145727) aj bP hHeld (h:=?_)
           refine Fk 20 (some 113) (ba 28 4194303) aj bP hHeld (h:=?_)
           refine pu 22 (some 115) (ba 28 8388607) aj (h:=?_)
           refine Fk 23 (some 116) (ba 28 16777215) aj bP hHeld (h:=?_)
           refine pu 24 (some 117) (ba 28 33554431) aj (h:=?_)
           refine oK (i:=25) (N:=none) (ba 28 67108863) rfl rfl (atq aj.out (by kernel_rfl)) (by decide) (fun K hK=>?_)
           refine lf (w1:=?_) (by rfl) rfl ?_ ?_
           rotate_left;· go_simp;rfl
           refine hK.out _ _ ?_
           clear hK K
           refine pu 26 (some 118) (ba 28 134217727) aj (h:=?_)
           refine oK (i:=27) (N:=none) (ba 28 268435455) rfl rfl (atq aj.out (by kernel_rfl)) (by decide) (fun K hK=>?_)
           refine lf (w1:=?_) (by rfl) rfl ?_ ?_
           rotate_left;· go_simp;rfl
           refine hK.out _ _ ?_
           clear hK K
           refine gY (jU aj.out (by kernel_rfl)) ?_
           try go_wp2
           (try simp only [← iA])
           first|go_roundg k4|(simp only [← at6];go_roundg k4)|(simp only [← jG];go_roundg k4)
           case measure=>have:=as3.z;have:=bw.z;have:=rU.out;have:=aty.z;omega
           case rel=>exact ⟨(Z7),(wrap64 (dr+1)),rs,(by first|exact H'|(rw [at6];exact H')|(rw [jG];exact H')),⟨by have:=as3.z;have:=bw.z;have:=rU.out;have:=aty.z;omega⟩,⟨by (try simp only [iA]);(with_reducible repeat (first|apply Kd.gQ|apply Kd.atB|apply Kd.dK));exact SX.out⟩,⟨aL HB.z⟩⟩
        have H':=k0 H
        clear H
        go_wp2
        first|go_roundg ES|(simp only [← at6];go_roundg ES)|(simp only [← jG];go_roundg ES)
        case measure=>have:=as3.z;have:=bw.z;have:=rU.out;omega
        case rel=>exact ⟨(bg),(wrap64 (ath+1)),rs,(by first|exact H'|(rw [at6];exact H')|(rw [jG];exact H')),⟨by have:=as3.z;have:=bw.z;have:=rU.out;omega⟩,⟨aS (aq.z)⟩,⟨bl⟩⟩
   replace H:=iS H;obtain ⟨c6,H⟩:=H
   have iP:=decide_eq_true c6
   clear c6
   replace H:=iS H;obtain ⟨c7,H⟩:=H
   have pn:=decide_eq_true c7
   clear c7
   obtain ⟨Bv,xS⟩:=nY (([]:List Int):List Int)
   replace H:(ata.l1 k1 a1 aD (l0.length:Int) Bv l0 (l0.length:Int) oW (ai l0 oW) ((ai l0 oW).length:Int) 0)=some r:=rH xS.z H
   have H':=k0 H
   clear H
   obtain ⟨cC,cD⟩:=iN oW (l0.length:Int)
   obtain ⟨jE,IW,JL,e104,cM,sj,r_⟩:=b8 dh.z oW cC cD
   cases e104
   replace cM:=hbc HB cM
   have xN:=k0 r_
   have I9:=k0 sj
   clear r_ sj
   replace cC:=eT cC
   replace cD:=eT cD
   go_wp2_with (first|(refine aX (N:=29) rfl ?_;refine jM 2 (N:=29) (xs:=([]:List Int)) (inner:=[]) (aJ.none _ _) ?_;intro C8 w8 kj hb bR atf;clear bR atf;(first|rw [← xS.z] at kj|(simp only [Int.reduceToNat] at kj;rw [← xS.z] at kj));replace aq:=kg aq (Kd.bh kj) hb;have lz:=k0 (Kd.cg kj (as8 bl));replace HB:=bW hb;clear hb kj))
   go_loopg [9,32] k1 (fun kq v9 Rv w'=>∃ (fZ:List Int) (zH:Int),Rv=.int .i64 zH∧af (ata.l1 kq a1 aD (l0.length:Int) fZ l0 (l0.length:Int) oW (ai l0 oW) ((ai l0 oW).length:Int) zH=some r)∧af (kq≤k1)∧af (Kd.S (Kd.slice 2 (Kd.int .i64)) 29 w' w.heap.size (fun k_=>some k_ ≠ (v9:Value).ownBlock) u5 aD)∧af (Kd.R (Kd.int .i64) 2 w' w.heap.size (fun _=>True) v9 fZ)∧af (Below w.heap.size w w'))
   case atStart=>exact ⟨(Bv),(0),rs,H',⟨Nat.le_refl _⟩,⟨aS (Kd.bQ aq.z (fun _ hk=>hk.2))⟩,⟨aR (lz.z)⟩,⟨bl⟩⟩
   case round =>
    clear H'
    obtain ⟨fZ,zH,rfl,HA,bw,aq,vD,HB⟩:=hrel
    cases gk with
    | zero=>exact absurd HA.z (by simp [ata.l1])
    | succ k2 =>
     have H:=HA.z
     clear HA
     simp only [ata.l1] at H
     replace H:=iC H;obtain ⟨iw,H⟩|⟨iw,H⟩:=H
     case inl =>
      replace H:=iS H;obtain ⟨c16,H⟩:=H
      have FL:=k0 c16
      clear c16
      obtain ⟨vr,uq⟩:=nY (aD ++ [fZ]:List (List Int))
      replace H:(ata.l0 k2 a1 vr (l0.length:Int) l0 (l0.length:Int) (wrap64 (oW+1)))=some r:=rH uq.z H
      have H':=k0 H
      clear H
      obtain ⟨I5,Gj,rfl⟩:=Kd.b9 vD.z
      go_wp2_with (first|((with_reducible refine ji (b:=.append) (xs:=#[.tmp 43,.tmp 45]) rfl ?_);at_builtin;refine Kd.uv (Kd.slice 2 (Kd.int .i64)) (w0:=w) w.heap.size rfl (.tmp 43) (.tmp 45) 24 29 (.slice none 0 0) 24 rfl Try.underlying24 sB rfl (by decide) (by omega) u5 aD fZ [.slice I5 fZ.length Gj] (fun _=>True) (fun k_=>some k_=(.slice I5 fZ.length Gj:Value).ownBlock) rfl rfl ?aP (fun k_ aU=>((Kd.aH (ok':=fun k_=>((fun _=>True)) k_∧some k_ ≠ (u5:Value).ownBlock) (Kd.iZ (vD.z) (Kd.atC aq.z) (by decide)) (fun k_ hk=>⟨trivial,hk.2⟩))).1 k_ aU.symm) ?aF ?aO ?aB ?aS ?aL ?_;(case aP=>exact Kd.ke (Kd.aH (Kd.om rfl (Kd.aH (ok':=fun k_=>((fun _=>True)) k_∧some k_ ≠ (u5:Value).ownBlock) (Kd.iZ (vD.z) (Kd.atC aq.z) (by decide)) (fun k_ hk=>⟨trivial,hk.2⟩))) (fun _ h_=>h_)));(case aB=>exact bl);(case aF=>exact (fun _ _=>trivial));(case aO=>exact (aS (Kd.bQ aq.z (fun k_ hk=>⟨trivial,fun e_=>hk e_⟩))));(case aS=>exact (as8 bl));(case aL=>have:=FL.out;omega);intro Lr yq ho hb hg a_;rw [← uq.z] at ho;replace HB:=k0 hb;have mD:=k0 ho;clear aq vD;clear ho hb hg a_))
      first|go_roundg k2|(simp only [← at6];go_roundg k2)|(simp only [← jG];go_roundg k2)
      case measure=>have:=as3.z;have:=bw.z;omega
      case rel=>exact ⟨(vr),(wrap64 (oW+1)),rs,(by first|exact H'|(rw [at6];exact H')|(rw [jG];exact H')),⟨by have:=as3.z;have:=bw.z;omega⟩,⟨aS (mD.z)⟩,⟨bl⟩⟩
     replace H:=iS H;obtain ⟨c11,H⟩:=H
     have kW:=decide_eq_true c11
     clear c11
     replace H:=iS H;obtain ⟨c12,H⟩:=H
     have pg:=decide_eq_true c12
     clear c12
     replace H:=bS H;obtain ⟨t109,qZ,H⟩:=H
     replace H:=iS H;obtain ⟨c14,H⟩:=H
     have Nd:=k0 c14
     clear c14
     obtain ⟨tX,yO⟩:=nY (fZ ++ [t109]:List Int)
     replace H:(ata.l1 k2 a1 aD (l0.length:Int) tX l0 (l0.length:Int) oW (ai l0 oW) ((ai l0 oW).length:Int) (wrap64 (zH+1)))=some r:=rH yO.z H
     have H':=k0 H
     clear H
     obtain ⟨ia,ic⟩:=iN zH ((ai l0 oW).length:Int)
     obtain ⟨ux,e108,jH⟩:=Kd.bK xN.z zH ia ic
     cases e108
     replace jH:=hbc HB jH
     replace ia:=eT ia
     replace ic:=eT ic
     go_wp2_with (first|(refine aT (f:=86) rfl ?_;refine gC (some 39) Try.func86 #[.int .i64 (rd (ai l0 oW) zH),.int .i64 a1] ?_;(with_reducible refine (nZ.calls (rd (ai l0 oW) zH) a1 t109 _ qZ.z).mono ?_);rintro e w' ⟨rfl,⟨nd,rfl⟩⟩;refine ⟨_,rfl,?_⟩)|((with_reducible refine ji (b:=.append) (xs:=#[.tmp 36,.tmp 40]) rfl ?_);at_builtin;refine Kd.oh (Kd.int .i64) (w0:=w) w.heap.size rfl (.tmp 36) (.tmp 40) 29 2 (.int .i64 0) 8 rfl Try.underlying29 ju rfl (by decide) (by omega) u9 fZ t109 [.int .i64 t109] (fun _=>True) (fun _=>False) rfl rfl ?aP (fun _ hk=>hk.elim) ?aF ?aO ?aB ?aS ?aL ?_;(case aP=>exact rfl);(case aB=>exact bl);(case aF=>exact (fun _ _=>trivial));(case aO=>exact (aR vD.z));(case aS=>exact (as8 bl));(case aL=>have:=Nd.out;omega);intro zx sF ho hb hg a_;rw [← yO.z] at ho;replace aq:=k0 (Kd.uu (ok:=(fun _=>True)) (aS (Kd.bQ aq.z (fun _ hk=>⟨trivial,hk⟩))) hg a_);replace HB:=k0 hb;have nw:=k0 ho;clear vD;clear ho hb hg a_))
     first|go_roundg k2|(simp only [← at6];go_roundg k2)|(simp only [← jG];go_roundg k2)
     case measure=>have:=as3.z;have:=bw.z;omega
     case rel=>exact ⟨(tX),(wrap64 (zH+1)),rs,(by first|exact H'|(rw [at6];exact H')|(rw [jG];exact H')),⟨by have:=as3.z;have:=bw.z;omega⟩,⟨aS (Kd.bQ aq.z (fun _ hk=>hk.2))⟩,⟨aR (nw.z)⟩,⟨bl⟩⟩
end Go.Proofs.Ytapnggjaeehpdaa.B
/- Set with little white space, by a program. -/
