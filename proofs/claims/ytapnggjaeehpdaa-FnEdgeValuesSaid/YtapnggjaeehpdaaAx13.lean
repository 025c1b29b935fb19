/- The functions that one law reaches, each as a Lean function, and that Go's call comes to what it says. Condition of each: that the Lean function answers (is not none). -/
import Derived.Test.YtapnggjaeehpdaaAx0
import Derived.Test.YtapnggjaeehpdaaAx8
import Derived.Test.YtapnggjaeehpdaaAx12
namespace Go.Proofs.Ytapnggjaeehpdaa.A
open Go.RowKit Go.Proofs.bB.dI Go.Proofs.bB.ark Go.Proofs.bB.jd
attribute [local go_sem] max2_int min2_int max_two min_two max_three min_three max_four min_four   -- for this text's walks alone
set_option linter.unusedVariables false
set_option linter.unusedSimpArgs false
/-! ### F57: function 57 -/
mutual
def aX.l0 : Nat → Int → Int → List (List Int) → Int → List (List Int) → Int → Int → Option ((List (List Int)) × Bool)
 | 0,_,_,_,_,_,_,_=>none
 | k+1,x1,x2,x8,x9,wo,Gd,sI=>if sI < Gd then (if 0≤sI then (if sI < (wo.length:Int) then (if 0≤(wrap64 (2 * x9)) then (if (wrap64 (2 * x9):Int).toNat≤35184372088832 then (aX.l1 k x1 x2 x8 x9 sI (List.replicate (wrap64 (2 * x9):Int).toNat 0) wo Gd sI ((ah wo sI).length:Int) 0) else (none)) else (none)) else (none)) else (none)) else (aX.l2 k x1 x8 x9 x9 0)
def aX.l1 : Nat → Int → Int → List (List Int) → Int → Int → List Int → List (List Int) → Int → Int → Int → Int → Option ((List (List Int)) × Bool)
 | 0,_,_,_,_,_,_,_,_,_,_,_=>none
 | k+1,x1,x2,x8,x9,cY,dJ,wo,Gd,sI,Xr,sJ=>if sJ < Xr then (if 0≤sJ then (if sJ < ((ah wo cY).length:Int) then ((tX.f (wrap64 ((wrap64 (-x2)) * (rd (ah wo cY) sJ))) x1).bind fun t114=>(if sJ < (dJ.length:Int) then (aX.l1 k x1 x2 x8 x9 cY (dJ.set (sJ:Int).toNat t114) wo Gd sI Xr (wrap64 (sJ+1))) else (none))) else (none)) else (none)) else (if 0≤cY then (if cY < (dJ.length:Int) then (if x1=0 then (none) else (if 0≤(wrap64 (x9+cY)) then (if (wrap64 (x9+cY)) < (dJ.length:Int) then (if x8.length < 5864062014805 then (aX.l0 k x1 x2 (x8 ++ [((dJ.set (cY:Int).toNat (Int.tmod (wrap64 ((rd dJ cY)+1)) x1)).set ((wrap64 (x9+cY)):Int).toNat 1)]) x9 wo Gd (wrap64 (sI+1))) else (none)) else (none)) else (none))) else (none)) else (none))
def aX.l2 : Nat → Int → List (List Int) → Int → Int → Int → Option ((List (List Int)) × Bool)
 | 0,_,_,_,_,_=>none
 | k+1,x1,x8,x9,sM,jk=>if jk < sM then (if 0≤jk then (if jk≤(x8.length:Int) then ((xz.f k (x8.drop (jk:Int).toNat) jk).bind fun t127=>(if t127 < 0 then (some (([]:List (List Int)),false)) else (if 0≤(wrap64 (jk+t127)) then (if (wrap64 (jk+t127)) < (x8.length:Int) then (if jk < (x8.length:Int) then ((some (swp x8 jk (wrap64 (jk+t127)):List (List Int))).bind fun eM=>(if jk < ((ah eM jk).length:Int) then ((lC.f k (rd (ah eM jk) jk) x1).bind fun t133=>(aX.l3 k x1 eM x9 t133 sM jk ((ah eM jk).length:Int) 0 jk)) else (none))) else (none)) else (none)) else (none)))) else (none)) else (none)) else (aX.l6 k x8 x9 (([]:List (List Int))) (x8.length:Int) 0)
def aX.l3 : Nat → Int → List (List Int) → Int → Int → Int → Int → Int → Int → Int → Option ((List (List Int)) × Bool)
 | 0,_,_,_,_,_,_,_,_,_=>none
 | k+1,x1,x8,x9,arf,sM,jk,Xn,CY,kD=>if CY < Xn then (if 0≤kD then (if kD < (x8.length:Int) then (if 0≤CY then (if CY < ((ah x8 kD).length:Int) then (if x1=0 then (none) else (aX.l3 k x1 (x8.set (kD:Int).toNat ((ah x8 kD).set (CY:Int).toNat (Int.tmod (wrap64 ((rd (ah x8 kD) CY) * arf)) x1))) x9 arf sM jk Xn (wrap64 (CY+1)) kD)) else (none)) else (none)) else (none)) else (none)) else (aX.l4 k x1 x8 x9 sM jk (x8.length:Int) 0 kD)
def aX.l4 : Nat → Int → List (List Int) → Int → Int → Int → Int → Int → Int → Option ((List (List Int)) × Bool)
 | 0,_,_,_,_,_,_,_,_=>none
 | k+1,x1,x8,x9,sM,jk,asW,ar4,kD=>if ar4 < asW then (if 0≤ar4 then (if ar4 < (x8.length:Int) then (if 0≤kD then (if kD < ((ah x8 ar4).length:Int) then (if ar4=kD then (aX.l4 k x1 x8 x9 sM jk asW (wrap64 (ar4+1)) kD) else (if (rd (ah x8 ar4) kD)=0 then (aX.l4 k x1 x8 x9 sM jk asW (wrap64 (ar4+1)) kD) else (aX.l5 k x1 x8 x9 ar4 (rd (ah x8 ar4) kD) sM jk asW ar4 ((ah x8 ar4).length:Int) 0 kD))) else (none)) else (none)) else (none)) else (none)) else (aX.l2 k x1 x8 x9 sM (wrap64 (jk+1)))
def aX.l5 : Nat → Int → List (List Int) → Int → Int → Int → Int → Int → Int → Int → Int → Int → Int → Option ((List (List Int)) × Bool)
 | 0,_,_,_,_,_,_,_,_,_,_,_,_=>none
 | k+1,x1,x8,x9,ji,lA,sM,jk,asW,ar4,Xo,zf,kD=>if zf < Xo then (if 0≤zf then (if zf < ((ah x8 ji).length:Int) then (if 0≤kD then (if kD < (x8.length:Int) then (if zf < ((ah x8 kD).length:Int) then ((tX.f (wrap64 ((rd (ah x8 ji) zf) - (wrap64 (lA * (rd (ah x8 kD) zf))))) x1).bind fun t147=>(aX.l5 k x1 (x8.set (ji:Int).toNat ((ah x8 ji).set (zf:Int).toNat t147)) x9 ji lA sM jk asW ar4 Xo (wrap64 (zf+1)) kD)) else (none)) else (none)) else (none)) else (none)) else (none)) else (aX.l4 k x1 x8 x9 sM jk asW (wrap64 (ar4+1)) kD)
def aX.l6 : Nat → List (List Int) → Int → List (List Int) → Int → Int → Option ((List (List Int)) × Bool)
 | 0,_,_,_,_,_=>none
 | k+1,x8,x9,lB,Xp,CZ=>if CZ < Xp then (if 0≤CZ then (if CZ < (x8.length:Int) then (if 0≤x9 then (if x9≤((ah x8 CZ).length:Int) then ((some ((ah x8 CZ).drop (x9:Int).toNat:List Int)).bind fun rP=>(if lB.length < 5864062014805 then (aX.l6 k x8 x9 (lB ++ [rP]) Xp (wrap64 (CZ+1))) else (none))) else (none)) else (none)) else (none)) else (none)) else (some (lB,true))
end
def aX.f (k:Nat) (ag:Int) (af:List (List Int)) (a1:Int) (a2:Int):Option ((List (List Int)) × Bool):=(gI.f k ag af).bind fun t105=>(aX.l0 k a1 a2 (([]:List (List Int))) (wrap64 (2 * (af.length:Int))) t105 (t105.length:Int) 0)
def aX.Rm:Bool × List (List Nat × List Nat):=(true,[([],[]),([],[]),([],[]),([],[]),([],[]),([3,4],[3,4]),([],[]),([],[]),([],[]),([7,8],[7,8]),([6,9],[6,9]),([10],[10]),([],[]),([],[]),([12,13],[12,13]),([14],[14]),([0,1,0,1,6,7,8,9,10,11,15],[0,1]),([16,11,0,1,6,7,8,9,10,11,15],[11,16]),([2,5,0,1,2,3,4,5,6,7,8,9,10,11,12,13,14,15,16,17],[2,5]),([18,15,17,0,1,2,3,4,5,6,7,8,9,10,11,12,13,14,15,16,17],[15,18])])
def aX.Yp:List Nat:=[0,0,0,0,0,24,0,0,0,384,960,1984,0,0,12288,28672,65475,131011,262143,524287]
theorem aX.ajc:eH .any (opsOf Try.f57 21)=aX.Rm:=by kernel_rfl
theorem aX.abX:iL aX.Rm.2 aX.Yp=true:=by kernel_rfl
def aX.DI:Bool × List (List Nat × List Nat):=(true,[([],[]),([],[]),([0,1],[0,1]),([2],[2]),([],[]),([3,4],[3,4]),([5],[5]),([],[]),([6,7],[6,7]),([8,8,0,1,2,3,4,5,6,7,8],[8])])
def aX.JZ:List Nat:=[0,0,3,7,0,31,63,0,255,511]
theorem aX.Ow:eH .any (opsOf Try.f57 22)=aX.DI:=by kernel_rfl
theorem aX.Lj:iL aX.DI.2 aX.JZ=true:=by kernel_rfl
def aX.Rn:Bool × List (List Nat × List Nat):=(true,[([],[]),([],[]),([0,1],[0,1]),([2],[2]),([],[]),([],[]),([],[]),([5,6],[5,6]),([7],[7]),([],[]),([8,9],[8,9]),([10],[10]),([],[]),([11,12],[11,12]),([],[]),([13,14],[13,14]),([3,4,0,1,2,3,4,5,6,7,8,9,10,11,12,13,14,15],[3,4]),([16,15,0,1,2,3,4,5,6,7,8,9,10,11,12,13,14,15],[15,16])])
def aX.Yq:List Nat:=[0,0,3,7,0,0,0,96,224,0,992,2016,0,8160,0,32736,65535,131071]
theorem aX.ajd:eH .any (opsOf Try.f57 26)=aX.Rn:=by kernel_rfl
theorem aX.abY:iL aX.Rn.2 aX.Yq=true:=by kernel_rfl
def aX.Rq:Bool × List (List Nat × List Nat):=(true,[([],[]),([],[]),([],[]),([],[]),([2,3],[2,3]),([4],[4]),([],[]),([],[]),([],[]),([7,8],[7,8]),([9],[9]),([],[]),([10,11],[10,11]),([12],[12]),([6,13],[6,13]),([5,14],[5,14]),([],[]),([15,16],[15,16]),([0,1,0,1,2,3,4,5,6,7,8,9,10,11,12,13,14,15,16,17],[0,1]),([18,17,17,0,1,2,3,4,5,6,7,8,9,10,11,12,13,14,15,16,17],[17,18])])
def aX.Yu:List Nat:=[0,0,0,0,12,28,0,0,0,384,896,0,3968,8064,16320,32764,0,131068,262143,524287]
theorem aX.ajf:eH .any (opsOf Try.f57 36)=aX.Rq:=by kernel_rfl
theorem aX.ab0:iL aX.Rq.2 aX.Yu=true:=by kernel_rfl
set_option maxHeartbeats 8000000 in
set_option maxRecDepth 100000 in
theorem aX.calls (k : Nat) (ag : Int) (az : Option Addr) (ay : Nat) (af : List (List Int)) (a1 : Int) (a2 : Int) (r1 : List (List Int)) (r2 : Bool) (w : World) (aqO : Kd.C (Kd.slice 2 (Kd.int .i64)) w az af.length af) (bG : af.length ≤ ay) (h : aX.f k ag af a1 a2 = some (r1, r2)) :
  Calls Try.prog 57 #[.agg #[.int .i64 ag,.slice az af.length ay],.int .i64 a1,.int .i64 a2] w fun e w'=>∃ cR:Value,e=.returned (.tuple #[cR,.bool r2])∧Kd.N (Kd.slice 2 (Kd.int .i64)) 29 w' w.heap.size (fun _=>True) cR r1∧Below w.heap.size w w':=by
 have eE:=Try.underlying26
 have aW:=k0 aqO
 have bh:=k0 bG
 clear aqO bG
 have HB:=k0 (Below.refl w.heap.size w)
 unfold aX.f at h
 have H:=h
 clear h
 obtain ⟨gq,gv⟩:=nY (([]:List (List Int)):List (List Int))
 replace H:((gI.f k ag af).bind fun t105=>(aX.l0 k a1 a2 gq (wrap64 (2 * (af.length:Int))) t105 (t105.length:Int) 0))=some (r1,r2):=rH gv.z H
 replace H:=bS H;obtain ⟨t105,A4,H⟩:=H
 have H':=k0 H
 clear H
 go_enter Try.func57,Try.ntmps57
 try go_wp2_with (first|(refine aqI (N:=3) rfl ?_;refine cz 3 #[.int .i64 ag,.slice az af.length ay] 26 bl ?_;intro aA w5 aa aqF HB;have aqR:=aqF))
 replace aa:=k0 (cJ aa.z);replace HB:=k0 (aqW HB.z)
 refine gz (n:=7) (S:=fun w'=>w'.cell? ⟨aA,0,none⟩=some (.int .i64 ag)∧w'.cell? ⟨aA,1,none⟩=some (.slice az af.length ay)) (ds:=[]) (ba 7 0) (by kernel_rfl) rfl rfl ⟨cH aa,cE aa⟩ (fun hHeld=>?_)
 generalize w5.drew=w6 at aa HB hHeld ⊢
 refine qV (i:=1) (N:=some 27) (v:=?_) (a':=?_) (ba 7 2) rfl rfl (by kernel_rfl) (fun _ _ _ h=>h) (Or.inl ⟨by rfl,?_⟩) ?_ ?_
 rotate_left;· intro w';go_simp;with_reducible rfl
 rotate_left;· simp only [Act.put,zI,zZ,zS,bJ,ck];rfl
 refine y7 (i:=2) (N:=some 28) (v:=?_) (a':=?_) (ba 7 6) rfl rfl (by kernel_rfl) (fun _ _ _ h=>h) (Or.inl ⟨by rfl,?_⟩) hHeld ?_ ?_
 rotate_left;· rintro w' ⟨s0,s1⟩;go_simp;with_reducible rfl
 rotate_left;· simp only [Act.put,zI,zZ,zS,bJ,ck];rfl
 refine qV (i:=3) (N:=some 29) (v:=?_) (a':=?_) (ba 7 14) rfl rfl (by kernel_rfl) (fun _ _ _ h=>h) (Or.inl ⟨by rfl,?_⟩) ?_ ?_
 rotate_left;· intro w';go_simp;with_reducible rfl
 rotate_left;· simp only [Act.put,zI,zZ,zS,bJ,ck];rfl
 refine qV (i:=4) (N:=some 30) (v:=?_) (a':=?_) (ba 7 30) rfl rfl (by kernel_rfl) (fun _ _ _ h=>h) (Or.inl ⟨by rfl,?_⟩) ?_ ?_
 rotate_left;· intro w';go_simp;with_reducible rfl
 rotate_left;· simp only [Act.put,zI,zZ,zS,bJ,ck];rfl
 refine eG (i:=0) (N:=some 26) (ba 7 31) rfl rfl (by kernel_rfl) (by decide) (fun K hK=>?_)
 refine Kd.Rf (Kd.slice 2 (Kd.int .i64)) _ 29 ?hg (N:=26) ?hd (xs:=([]:List (List Int))) (inner:=[]) (ok:=fun _=>True) (bw:=fun _=>True) ?hr ?hp (fun _ hk=>hk) trivial (Below.refl _ _) (Nat.le_refl _) (by simp) ?_;(case hd=>rfl);(case hg=>rfl);(case hr=>first|(go_simp;done)|(go_simp;rfl));(case hp=>exact (aH.none _ _))
 intro ary w7 oo hb bH bI
 clear bH bI
 (first|rw [← gv.z] at oo|(simp only [Int.reduceToNat] at oo;rw [← gv.z] at oo))
 have bU:=k0 (Kd.fT oo (aqG bl));replace aa:=kB aa hb;replace HB:=bW hb
 clear hb oo
 refine hK.out _ _ ⟨cH aa,cE aa⟩ (fun hHeld=>?_)
 clear hK K
 refine eV (a':=?_) ?_ ?_
 rotate_left;· show Act.put _ (some 26) _=_;simp only [Act.put,zI,zZ,zS,bJ,ck];rfl
 refine qV (i:=5) (N:=some 8) (v:=?_) (a':=?_) (ba 7 63) rfl rfl (by kernel_rfl) (fun _ _ _ h=>h) (Or.inl ⟨by rfl,?_⟩) ?_ ?_
 rotate_left;· intro w';go_simp;with_reducible rfl
 rotate_left;· simp only [Act.put,zI,zZ,zS,bJ,ck];rfl
 refine qV (i:=6) (N:=some 9) (v:=?_) (a':=?_) (ba 7 127) rfl rfl (by kernel_rfl) (fun _ _ _ h=>h) (Or.inl ⟨by rfl,?_⟩) ?_ ?_
 rotate_left;· intro w';go_simp;with_reducible rfl
 rotate_left;· simp only [Act.put,zI,zZ,zS,bJ,ck];rfl
 refine gx (by kernel_rfl) ?_
 obtain ⟨_,_,_,_⟩:=aqA aa
 try go_wp2_with (first|(refine aqz (f:=101) rfl ?_;refine gC (some 32) Try.func101 #[.agg #[.int .i64 ag,.slice az af.length ay]] ?_;(with_reducible refine (gI.calls k ag _ _ af t105 _ ?aq ?au A4.z).mono ?_);(case aq=>exact aC (Kd.aqN aW.z HB.z));(case au=>exact bh.z);rintro e jh ⟨CS,rfl,aD,hb⟩;refine ⟨_,rfl,?_⟩;have oP:=k0 (Kd.fT (Kd.oX aD (Kd.p9 (aS bU.z))) (aqG bl));replace bU:=iw bU (Kd.nw aD) hb;replace aa:=kB aa hb;replace HB:=bW hb;obtain ⟨eJ,dg,rfl⟩:=Kd.dL oP.z))
 go_loopg [8,34] k (fun kq v8 v34 w'=>∃ (bu:List (List Int)) (dV:List (List Int)) (cZ:Int),v34=.int .i64 cZ∧ai (aX.l0 kq a1 a2 bu (wrap64 (2 * (af.length:Int))) dV (t105.length:Int) cZ=some (r1,r2))∧ai (kq≤k)∧ai (Kd.S (Kd.slice 2 (Kd.int .i64)) 29 w' w.heap.size (fun k_=>some k_ ≠ ((.slice eJ t105.length dg):Value).ownBlock) v8 bu)∧ai (Kd.S (Kd.slice 2 (Kd.int .i64)) 29 w' w.heap.size (fun k_=>some k_ ≠ (v8:Value).ownBlock) (.slice eJ t105.length dg) dV)∧ai (w'.heap[aA]?=some (sO ag az af ay 26))∧ai (Below w.heap.size w w'))
 case atStart=>exact ⟨(gq),(t105),(0),rs,H',⟨Nat.le_refl _⟩,⟨aS (Kd.b6 bU.z (fun _ hk=>hk.2))⟩,⟨aS (Kd.b6 oP.z (fun _ hk=>hk.2))⟩,⟨bk⟩,⟨bl⟩⟩
 case round =>
  clear H'
  obtain ⟨bu,dV,cZ,rfl,HA,aI,aqD,gB,aa,HB⟩:=hrel
  have cu:=(Kd.a_ gB.z).1
  rw [cu] at gB
  (try simp only [cu])
  (try simp only [cu] at aa)
  (try simp only [cu] at aqD)
  cases gk with
  | zero=>exact absurd HA.z (by simp [aX.l0])
  | succ k1 =>
   have H:=HA.z
   clear HA
   simp only [aX.l0] at H
   by_cases c12:cZ < (t105.length:Int)
   case neg =>
    rw [if_neg c12] at H
    have arN:=decide_eq_false c12
    (try simp only [cu] at arN)
    clear c12
    have H':=k0 H
    clear H
    go_wp2
    go_loopg [80] k1 (fun kq v80 w'=>∃ (cv:List (List Int)) (aqC:Int),v80=.int .i64 aqC∧ai (aX.l2 kq a1 cv (wrap64 (2 * (af.length:Int))) (wrap64 (2 * (af.length:Int))) aqC=some (r1,r2))∧ai (kq≤k1)∧ai (Kd.S (Kd.slice 2 (Kd.int .i64)) 29 w' w.heap.size (fun _=>True) u8 cv)∧ai (w'.heap[aA]?=some (sO ag az af ay 26))∧ai (Below w.heap.size w w'))
    case atStart=>exact ⟨(bu),(0),rs,H',⟨Nat.le_refl _⟩,⟨by (try simp only [cu]);(with_reducible repeat (first|apply Kd.iU|apply Kd.iV|apply Kd.gf));exact Kd.b6 aqD.z (fun _ hk=>trivial)⟩,⟨by (try simp only [cu]);exact bk⟩,⟨bl⟩⟩
    case round =>
     clear H'
     obtain ⟨cv,aqC,rfl,HA,aqL,aqD,aa,HB⟩:=hrel
     cases gk with
     | zero=>exact absurd HA.z (by simp [aX.l2])
     | succ k2 =>
      have H:=HA.z
      clear HA
      simp only [aX.l2] at H
      by_cases c43:aqC < (wrap64 (2 * (af.length:Int)))
      case neg =>
       rw [if_neg c43] at H
       have asA:=decide_eq_false c43
       (try simp only [cu] at asA)
       clear c43
       obtain ⟨pM,um⟩:=nY (([]:List (List Int)):List (List Int))
       replace H:(aX.l6 k2 cv (wrap64 (2 * (af.length:Int))) pM (cv.length:Int) 0)=some (r1,r2):=rH um.z H
       have H':=k0 H
       clear H
       go_wp2_with (first|(refine aqI (N:=188) rfl ?_;refine Kd.zP (Kd.slice 2 (Kd.int .i64)) _ 29 ?hg (N:=188) ?hd (xs:=([]:List (List Int))) (inner:=[]) (ok:=fun _=>True) (bw:=fun _=>True) ?hr ?hp (fun _ hk=>hk) trivial (Below.refl _ _) (Nat.le_refl _) (by simp) ?_;(case hd=>rfl);(case hg=>rfl);(case hr=>first|(go_simp;done)|(go_simp;rfl));(case hp=>exact (aH.none _ _));intro ajw aqb Cn hb bH bI;clear bH bI;(first|rw [← um.z] at Cn|(simp only [Int.reduceToNat] at Cn;rw [← um.z] at Cn));have Bs:=k0 (Kd.fT (Kd.oX Cn (Kd.p9 (aS aqD.z))) (aqG bl));replace aqD:=iw aqD (Kd.nw Cn) hb;replace aa:=kB aa hb;replace HB:=bW hb;clear hb Cn;obtain ⟨Yf,adE,rfl⟩:=Kd.dL aqD.z))
       go_loopg [23,191] k2 (fun kq Jb ajA w'=>∃ (xg:List (List Int)) (lz:Int),ajA=.int .i64 lz∧ai (aX.l6 kq cv (wrap64 (2 * (af.length:Int))) xg (cv.length:Int) lz=some (r1,r2))∧ai (kq≤k2)∧ai (Kd.S (Kd.slice 2 (Kd.int .i64)) 29 w' w.heap.size (fun k_=>some k_ ≠ (Jb:Value).ownBlock) (.slice Yf cv.length adE) cv)∧ai (Kd.N (Kd.slice 2 (Kd.int .i64)) 29 w' w.heap.size (fun _=>True) Jb xg)∧ai (w'.heap[aA]?=some (sO ag az af ay 26))∧ai (Below w.heap.size w w'))
       case atStart=>exact ⟨(pM),(0),rs,H',⟨Nat.le_refl _⟩,⟨by (try simp only [cu]);(with_reducible repeat (first|apply Kd.iU|apply Kd.iV|apply Kd.gf));exact Kd.b6 aqD.z (fun _ hk=>hk.2)⟩,⟨by (try simp only [cu]);(with_reducible repeat (first|apply Kd.KR|apply Kd.KU|apply Kd.KT));exact Kd.S_N (Kd.b6 Bs.z (fun _ _=>trivial))⟩,⟨by (try simp only [cu]);exact bk⟩,⟨bl⟩⟩
       case round =>
        clear H'
        obtain ⟨xg,lz,rfl,HA,dR,aqD,kg,aa,HB⟩:=hrel
        cases gk with
        | zero=>exact absurd HA.z (by simp [aX.l6])
        | succ k3 =>
         have H:=HA.z
         clear HA
         simp only [aX.l6] at H
         by_cases c113:lz < (cv.length:Int)
         case neg =>
          rw [if_neg c113] at H
          have DP:=decide_eq_false c113
          (try simp only [cu] at DP)
          clear c113
          simp only [Option.some.injEq,Prod.mk.injEq] at H
          obtain ⟨rfl,rfl⟩:=H
          go_wp2
          go_ret2
          exact ⟨_,eR,aN kg.z,bl⟩
         rw [if_pos c113] at H
         have DP:=decide_eq_true c113
         (try simp only [cu] at DP)
         clear c113
         replace H:=iS H;obtain ⟨c114,H⟩:=H
         have RV:=decide_eq_true c114
         clear c114
         replace H:=iS H;obtain ⟨c115,H⟩:=H
         have Lv:=decide_eq_true c115
         (try simp only [cu] at Lv)
         clear c115
         obtain ⟨mb,lN⟩:∃ j_:Int,(wrap64 (2 * (af.length:Int)))=j_:=⟨_,rfl⟩
         replace H:(if 0≤(mb) then (if (mb)≤((ah cv lz).length:Int) then ((some ((ah cv lz).drop ((mb):Int).toNat:List Int)).bind fun rP=>(if xg.length < 5864062014805 then (aX.l6 k3 cv (mb) (xg ++ [rP]) (cv.length:Int) (wrap64 (lz+1))) else (none))) else (none)) else (none))=some (r1,r2):=by first|(rw [lN] at H;exact H)|(simp only [lN] at H ⊢;exact H)
         (try rw [lN] at asA)
         have aoj:(IntKind.i64.wrap (2 * (af.length:Int)))=mb:=(bJ _).trans lN
         replace H:=iS H;obtain ⟨c117,H⟩:=H
         have ami:=eq_true c117
         have amj:=decide_eq_true c117
         clear c117
         replace H:=iS H;obtain ⟨c118,H⟩:=H
         have amk:=eq_true c118
         have aco:=decide_eq_true c118
         (try simp only [cu] at aco)
         clear c118
         obtain ⟨rP,GS⟩:=nY ((ah cv lz).drop ((mb):Int).toNat:List Int)
         replace H:(if xg.length < 5864062014805 then (aX.l6 k3 cv (mb) (xg ++ [rP]) (cv.length:Int) (wrap64 (lz+1))) else (none))=some (r1,r2):=rH GS.z H
         replace H:=iS H;obtain ⟨c120,H⟩:=H
         have Z6:=k0 c120
         clear c120
         obtain ⟨XD,QZ⟩:=nY (xg ++ [rP]:List (List Int))
         replace H:(aX.l6 k3 cv (mb) XD (cv.length:Int) (wrap64 (lz+1)))=some (r1,r2):=rH QZ.z H
         have H':=k0 H
         clear H
         obtain ⟨IQ,I1⟩:=iN lz (cv.length:Int)
         obtain ⟨al9,Be,zX,e154,VE,Vf,US⟩:=cD (Kd.a_ aqD.z).2.2 lz IQ I1
         cases e154
         obtain ⟨am5,afs,ae',atC⟩:=Kd.aq9 aqD.z [] lz IQ (by first|exact I1|exact oD|(have e_:=(Kd.a_ aqD.z).1;omega))
         obtain ⟨apV,rfl,Mj⟩:=ae'
         have Fs:=atC 0 _ rfl
         rw [Nat.add_zero,show ((Kd.slice 2 (Kd.int .i64))).sz=1 from rfl,Nat.mul_one] at Fs
         replace Fs:=Option.some.inj (Fs.symm.trans VE)
         rw [Fs] at Mj
         have P5:=k0 (show Kd.R (Kd.int .i64) 2 _ _ _ _ (ah cv lz) from Mj)
         clear Fs Mj
         have alQ:=k0 VE
         clear atC afs
         have Qs:=k0 US
         have PK:=k0 Vf
         clear US Vf
         replace IQ:=eT IQ
         replace I1:=eT I1
         have rK:((mb):Int)≤(((ah cv lz).length:Int):Int):=oD
         obtain ⟨i0121,Uv,_,Vu,_⟩:=info_parts lS
         have M7:(ah cv lz).length≤zX:=PK.z
         have Tv:Kd.C (Kd.int .i64) _ Be (ah cv lz).length (ah cv lz):=(by repeat (first|(with_reducible exact Qs.z)|(with_reducible refine Kd.fP ?_ _)|(with_reducible refine Kd.fQ ?_ _)|(with_reducible refine Kd.fk ?_)|exact Qs.z))
         have ah7:(0:Int)≤((mb):Int):=oD
         have afC:=Ht (P:=Try.prog) 29 2 .i64 Try.underlying29 Uv 1 Vu Be (ah cv lz).length zX (mb) ah7 rK
         have E6:=Kd.C7 (m:=((mb):Int).toNat) (c:=zX) Tv (by omega) M7
         obtain ⟨JE,hA121⟩:∃ A1,A1=(if zX=((mb):Int).toNat then Be else (Be:Option Addr).map (·.add (((mb):Int).toNat * 1))):=⟨_,rfl⟩
         obtain ⟨c121,ME⟩:∃ c1,c1=zX - ((mb):Int).toNat:=⟨_,rfl⟩
         have Ii:rP.length=(ah cv lz).length - ((mb):Int).toNat:=(by rw [GS.z,List.length_drop]<;>omega)
         rw [show (ah cv lz).drop ((mb):Int).toNat=rP from GS.z.symm] at E6
         replace E6:Kd.C (Kd.int .i64) _ JE rP.length rP:=(by rw [hA121];exact E6)
         rw [← Ii,← hA121,← ME] at afC
         have alL:=k0 E6
         have Zl:=k0 (show rP.length≤c121 from by rw [Ii,ME];exact Nat.sub_le_sub_right M7 _)
         clear E6 Tv M7 Uv Vu ME
         have alZ:=k0 Ii
         have Z3:=k0 hA121
         clear Ii hA121
         replace rK:=eT rK
         have PN:=k0 (Kd.YG (m:=((mb):Int).toNat) (c:=zX) (Kd.C9 (ok':=fun k_=>some k_ ≠ (u23:Value).ownBlock) (Kd.Q2 P5.z) (fun k_ hk=>by first|exact hk.1|exact hk.1.1|exact hk.2|exact hk.1.2)) (by have h_:=of_eq_true rK;omega) PK.z)
         rw [show (if zX=((mb):Int).toNat then Be else (Be:Option Addr).map (·.add (((mb):Int).toNat * (Kd.int .i64).sz)))=JE from Z3.out.symm,show (ah cv lz).drop ((mb):Int).toNat=rP from GS.z.symm] at PN
         go_wp2_with (first|((with_reducible refine ars (b:=.append) (xs:=#[.tmp 195,.tmp 199]) rfl ?_);at_builtin;refine Kd.aa1 (Kd.slice 2 (Kd.int .i64)) (w0:=w) w.heap.size rfl (.tmp 195) (.tmp 199) 24 29 (.slice none 0 0) 24 rfl Try.underlying24 o_ rfl (by decide) (by omega) u23 xg rP [.slice JE rP.length c121] (fun _=>True) (fun k_=>some k_ ≠ (u23:Value).ownBlock) rfl rfl ?aP (fun k_ aqJ=>⟨trivial,aqJ⟩) ?aF ?aO ?aB ?aS ?aL ?_;(case aP=>exact Kd.YE Zl.z (by (with_reducible repeat (first|apply Kd.PA|apply Kd.PD|apply Kd.PC));exact PN.out));(case aB=>exact bl);(case aF=>exact fun _ _=>trivial);(case aO=>exact (aN kg.z));(case aS=>exact (aqG bl));(case aL=>have:=Z6.out;omega);intro ajz aqg ho hb hg bg;rw [← QZ.z] at ho;have fX:=k0 (Kd.mF (v:=u23) (ok:=fun _=>True) (aS (Kd.b6 aqD.z (fun _ hk=>⟨trivial,hk⟩))) hg bg);have fY:=k0 (aq2 (aB aa.z) hg (Kd.QE kg.z aa.z (by decide)));have iK:=k0 (hb);have mR:=k0 (ho);clear aqD;clear aa;clear P5;clear HB;clear kg;have aqD:=fX;have aa:=fY;have HB:=iK;have Di:=mR;clear fX fY iK mR;clear ho hb hg bg))
         first|go_roundg k3|(simp only [← lN];go_roundg k3)|(simp only [← gl];go_roundg k3)|(simp only [← eD];go_roundg k3)|(simp only [← lO];go_roundg k3)|((try (have e_:=tY.out;injection e_ with gO o5 gP;subst gO gP));(try (have e_:=tZ.out;injection e_ with gO o5 gP;subst gO gP));go_roundg k3)
         case measure=>have:=aI.z;have:=aqL.z;have:=dR.z;omega
         case rel=>exact ⟨(XD),(wrap64 (lz+1)),rs,(by first|exact H'|(rw [lN];exact H')|(rw [gl];exact H')|(rw [eD];exact H')|(rw [lO];exact H')),⟨by have:=aI.z;have:=aqL.z;have:=dR.z;omega⟩,⟨by (try simp only [cu]);(with_reducible repeat (first|apply Kd.iU|apply Kd.iV|apply Kd.gf));exact Kd.b6 aqD.z (fun _ hk=>hk.2)⟩,⟨by (try simp only [cu]);(with_reducible repeat (first|apply Kd.KR|apply Kd.KU|apply Kd.KT));exact Di.z⟩,⟨by (try simp only [cu]);exact bk⟩,⟨bl⟩⟩
      rw [if_pos c43] at H
      have asA:=decide_eq_true c43
      (try simp only [cu] at asA)
      clear c43
      replace H:=iS H;obtain ⟨c44,H⟩:=H
      have acY:=eq_true c44
      have amx:=decide_eq_true c44
      clear c44
      replace H:=iS H;obtain ⟨c45,H⟩:=H
      have asB:=eq_true c45
      have acZ:=decide_eq_true c45
      (try simp only [cu] at acZ)
      clear c45
      obtain ⟨mz,uk⟩:=nY (cv.drop (aqC:Int).toNat:List (List Int))
      replace H:((xz.f k2 mz aqC).bind fun t127=>(if t127 < 0 then (some (([]:List (List Int)),false)) else (if 0≤(wrap64 (aqC+t127)) then (if (wrap64 (aqC+t127)) < (cv.length:Int) then (if aqC < (cv.length:Int) then ((some (swp cv aqC (wrap64 (aqC+t127)):List (List Int))).bind fun eM=>(if aqC < ((ah eM aqC).length:Int) then ((lC.f k2 (rd (ah eM aqC) aqC) a1).bind fun t133=>(aX.l3 k2 a1 eM (wrap64 (2 * (af.length:Int))) t133 (wrap64 (2 * (af.length:Int))) aqC ((ah eM aqC).length:Int) 0 aqC)) else (none))) else (none)) else (none)) else (none))))=some (r1,r2):=rH uk.z H
      replace H:=bS H;obtain ⟨t127,Bg,H⟩:=H
      replace H:=iC H;obtain ⟨as1,H⟩|⟨as1,H⟩:=H
      case inl =>
       obtain ⟨jQ,lO⟩:∃ j_:Int,(wrap64 (aqC+t127))=j_:=⟨_,rfl⟩
       replace H:(if 0≤(jQ) then (if (jQ) < (cv.length:Int) then (if aqC < (cv.length:Int) then ((some (swp cv aqC (jQ):List (List Int))).bind fun eM=>(if aqC < ((ah eM aqC).length:Int) then ((lC.f k2 (rd (ah eM aqC) aqC) a1).bind fun t133=>(aX.l3 k2 a1 eM (wrap64 (2 * (af.length:Int))) t133 (wrap64 (2 * (af.length:Int))) aqC ((ah eM aqC).length:Int) 0 aqC)) else (none))) else (none)) else (none)) else (none))=some (r1,r2):=by first|(rw [lO] at H;exact H)|(simp only [lO] at H ⊢;exact H)
       (try rw [lO] at Bg)
       have aoq:(IntKind.i64.wrap (aqC+t127))=jQ:=(bJ _).trans lO
       replace H:=iS H;obtain ⟨c57,H⟩:=H
       have ac4:=decide_eq_true c57
       clear c57
       replace H:=iS H;obtain ⟨c58,H⟩:=H
       have R5:=decide_eq_true c58
       (try simp only [cu] at R5)
       clear c58
       replace H:=iS H;obtain ⟨c59,H⟩:=H
       have R6:=decide_eq_true c59
       (try simp only [cu] at R6)
       clear c59
       obtain ⟨eM,zL⟩:=nY (swp cv aqC (jQ):List (List Int))
       replace H:(if aqC < ((ah eM aqC).length:Int) then ((lC.f k2 (rd (ah eM aqC) aqC) a1).bind fun t133=>(aX.l3 k2 a1 eM (wrap64 (2 * (af.length:Int))) t133 (wrap64 (2 * (af.length:Int))) aqC ((ah eM aqC).length:Int) 0 aqC)) else (none))=some (r1,r2):=rH zL.z H
       replace H:=iS H;obtain ⟨c61,H⟩:=H
       have ac5:=decide_eq_true c61
       (try simp only [cu] at ac5)
       clear c61
       replace H:=bS H;obtain ⟨t133,X8,H⟩:=H
       have H':=k0 H
       clear H
       try go_wp2_with (first|(refine aqI (N:=15) rfl ?_;refine fu 15 #[.int .i64 0] 3 ?_;intro qj hg Ji bq hb;replace aqD:=iG aqD hb;have eg:=k0 (bq);have J4:=gW hg (aqG bl);have YW:=J4;replace HB:=bW hb;have KO:=nL hg aa;have BD:=nG KO;replace aa:=kB aa hb;clear hb bq hg;obtain ⟨_,_⟩:=nE BD;obtain ⟨_,_⟩:=qg eg)|((with_reducible refine qi (t:=3) (p:=15) rfl ?_);refine qq (t:=3) (p:=15) (v:=?ap7) (w1:=(Ji.setCell ⟨qj,0,none⟩ (.int .i64 aqC))) ?hg ?ho ?hn ?hr ?_;(case ho=>rfl);(case hg=>rfl);(case hn=>rfl);(case hr=>first|(go_simp;done)|(go_simp;rfl));intro atb hw;have fX:ai (Kd.S (Kd.slice 2 (Kd.int .i64)) 29 atb w.heap.size (fun _=>True) u8 cv):=⟨(by rw [hw];exact (aS (Kd.b6 (gS 0 (.int .i64 aqC) (tS aqD eg)) (fun _ hk=>trivial))))⟩;have fY:ai (atb.heap[aA]?=some (sO ag az af ay 26)):=⟨(by rw [hw];exact kZ)⟩;have iJ:ai (atb.heap[qj]?=some (.cells #[.int .i64 aqC] 3 (0,0))):=⟨(by rw [hw];exact kZ)⟩;have iK:ai (Below w.heap.size w atb):=⟨(by rw [hw];exact bl)⟩;clear hw;clear aqD;clear aa;clear eg;clear HB;have aqD:=fX;have aa:=fY;have eg:=iJ;have HB:=iK;clear fX fY iJ iK;obtain ⟨_,_⟩:=qg eg;obtain ⟨Gs,vS,rfl⟩:=Kd.dL aqD.z;have Oc:(aqC:Int)≤((cv.length:Int):Int):=oD;obtain ⟨i068,Uy,_,Vx,_⟩:=info_parts o_;have M9:cv.length≤vS:=(Kd.a_ aqD.z).2.1;have Ty:Kd.C (Kd.slice 2 (Kd.int .i64)) _ Gs cv.length cv:=(Kd.a_ aqD.z).2.2;have ah9:(0:Int)≤(aqC:Int):=oD;have afE:=Ht (P:=Try.prog) 24 29 .i64 Try.underlying24 Uy 1 Vx Gs cv.length vS aqC ah9 Oc;have E8:=Kd.C7 (m:=(aqC:Int).toNat) (c:=vS) Ty (by omega) M9;obtain ⟨Pf,hA68⟩:∃ A1,A1=(if vS=(aqC:Int).toNat then Gs else (Gs:Option Addr).map (·.add ((aqC:Int).toNat * 1))):=⟨_,rfl⟩;obtain ⟨c68,MG⟩:∃ c1,c1=vS - (aqC:Int).toNat:=⟨_,rfl⟩;have Ik:mz.length=cv.length - (aqC:Int).toNat:=(by rw [uk.z,List.length_drop]<;>omega);rw [show (cv).drop (aqC:Int).toNat=mz from uk.z.symm] at E8;replace E8:Kd.C (Kd.slice 2 (Kd.int .i64)) _ Pf mz.length mz:=(by rw [hA68];exact E8);rw [← Ik,← hA68,← MG] at afE;have rz:=k0 E8;have J':=k0 (show mz.length≤c68 from by rw [Ik,MG];exact Nat.sub_le_sub_right M9 _);clear E8 Ty M9 Uy Vx MG;have al1:=k0 Ik;have alU:=k0 hA68;clear Ik hA68;have alW:=k0 (show (aqC:Int).toNat≤cv.length from by omega);replace Oc:=eT Oc)|(refine aqz (f:=106) rfl ?_;refine gC (some 87) Try.func106 #[.slice Pf mz.length c68,.func (.func 107) #[] #[.pointer (some ⟨qj,0,none⟩)]] ?_;(with_reducible refine (xz.calls k2 _ _ mz aqC t127 _ ?aq ?au ?cr Bg.z).mono ?_);(case aq=>exact aC (by repeat (first|(with_reducible exact rz.z)|(with_reducible refine Kd.fP ?_ _)|(with_reducible refine Kd.fQ ?_ _)|(with_reducible refine Kd.fk ?_)|exact rz.z)));(case au=>exact J'.z);(case cr=>exact by exact bk);rintro e w70 ⟨rfl,hb⟩;refine ⟨_,rfl,?_⟩;replace aqD:=iG aqD hb;replace aa:=kB aa hb;replace eg:=kB eg hb;replace rz:=k0 (Kd.aqN (by repeat (first|(with_reducible exact rz.z)|(with_reducible refine Kd.fP ?_ _)|(with_reducible refine Kd.fQ ?_ _)|(with_reducible refine Kd.fk ?_)|exact rz.z)) hb);replace HB:=bW hb))
       replace aqD:=k0 (Kd.gf aqD.z);replace aa:=k0 (cJ aa.z);replace eg:=k0 (cJ eg.z);replace rz:=k0 (Kd.fk rz.z);replace HB:=k0 (aqW HB.z)
       have tG:0≤((jQ):Int):=oD
       have tI:(jQ) < (cv.length:Int):=oD
       obtain ⟨rC,Bd,BZ,e128,wW,U7,UI⟩:=cD (Kd.a_ aqD.z).2.2 (jQ) tG tI
       cases e128
       obtain ⟨amV,afi,ae0,TS⟩:=Kd.aq9 aqD.z [] (jQ) tG (by first|exact tI|exact oD|(have e_:=(Kd.a_ aqD.z).1;omega))
       obtain ⟨apL,rfl,L_⟩:=ae0
       have Fg:=TS 0 _ rfl
       rw [Nat.add_zero,show ((Kd.slice 2 (Kd.int .i64))).sz=1 from rfl,Nat.mul_one] at Fg
       replace Fg:=Option.some.inj (Fg.symm.trans wW)
       rw [Fg] at L_
       have Zp:=k0 (show Kd.R (Kd.int .i64) 2 _ _ _ _ (ah cv (jQ)) from L_)
       clear Fg L_
       have Dr:=k0 wW
       clear TS afi
       have ZJ:=k0 UI
       have alj:=k0 U7
       clear UI U7
       replace tG:=eT tG
       replace tI:=eT tI
       obtain ⟨ox,oy⟩:=iN aqC (cv.length:Int)
       obtain ⟨BQ,sP,ar_,e129,mQ,uO,uI⟩:=cD (Kd.a_ aqD.z).2.2 aqC ox oy
       obtain rfl:rC=BQ:=(by injection e129)
       obtain ⟨Sf,EF,Ex,ye⟩:=Kd.aq9 aqD.z [] aqC ox (by first|exact oy|exact oD|(have e_:=(Kd.a_ aqD.z).1;omega))
       obtain ⟨W6,rfl,uB⟩:=Ex
       have o9:=ye 0 _ rfl
       rw [Nat.add_zero,show ((Kd.slice 2 (Kd.int .i64))).sz=1 from rfl,Nat.mul_one] at o9
       replace o9:=Option.some.inj (o9.symm.trans mQ)
       rw [o9] at uB
       have qA:=k0 (show Kd.R (Kd.int .i64) 2 _ _ _ _ (ah cv aqC) from uB)
       clear o9 uB
       have zH:=k0 mQ
       clear ye EF
       have wD:=k0 uI
       have J_:=k0 uO
       clear uI uO
       replace ox:=eT ox
       replace oy:=eT oy
       have AK:0≤(aqC:Int):=oD
       have AX:(aqC:Int) < ((cv.length:Int):Int):=oD
       obtain ⟨gi,Sy,Ej,En,Ml,adz,Dd⟩:=Kd.K_ aqD.z (by omega)
       (first|cases Ej|(injection Ej with bC eo ek;(first|subst bC|(injection bC with bC;subst bC));subst ek;clear eo))
       have J3:=k0 En
       have PG:=k0 Dd
       clear En Ml Dd
       (first|simp only [add_plain] at wW|skip)
       (first|simp only [add_plain] at mQ|skip)
       obtain ⟨_,adr,MM,Mt,yf,yh,_,_⟩:=Kd.K9 aqD.z [] (aqC:Int) AK AX
       obtain ⟨ajM,rfl,aez⟩:=Mt
       have Aq:=yf 0 _ rfl
       have Ag:=yh 0
       (try simp only [show ((Kd.slice 2 (Kd.int .i64))).sz=1 from rfl,Nat.mul_one,Nat.add_zero] at Aq)
       (try simp only [show ((Kd.slice 2 (Kd.int .i64))).sz=1 from rfl,Nat.mul_one,Nat.add_zero] at Ag)
       clear MM yf yh
       replace AK:=eT AK
       replace AX:=eT AX
       have Qf:=Rh aqD.z (aqC:Int) ((jQ):Int) oD (by have h_:(aqC:Int) < ((cv.length:Int):Int):=oD;first|exact h_|(have e_:=(Kd.a_ aqD.z).1;omega)|simpa using h_) oD (by have h_:((jQ):Int) < ((cv.length:Int):Int):=oD;first|exact h_|(have e_:=(Kd.a_ aqD.z).1;omega)|simpa using h_) (by first|exact zH.z|simpa only [add_plain,nA,Nat.mul_one,Nat.zero_add,Nat.add_zero] using zH.z) (by first|exact Dr.z|simpa only [add_plain,nA,Nat.mul_one,Nat.zero_add,Nat.add_zero] using Dr.z)
       obtain ⟨agi,afO⟩:=Rg aqD.z (aqC:Int) ((jQ):Int) oD (by have h_:(aqC:Int) < ((cv.length:Int):Int):=oD;first|exact h_|(have e_:=(Kd.a_ aqD.z).1;omega)|simpa using h_) oD (by have h_:((jQ):Int) < ((cv.length:Int):Int):=oD;first|exact h_|(have e_:=(Kd.a_ aqD.z).1;omega)|simpa using h_) (by first|exact Dr.z|simpa only [add_plain,nA,Nat.mul_one,Nat.zero_add,Nat.add_zero] using Dr.z)
       have Bz:=k0 Qf.1
       (have h_:=Bz.out;rw [← zL.z] at h_;have Ql:=k0 h_;clear h_ Bz;have Bz:=Ql;clear Ql)
       clear Qf
       refine gz (n:=20) (S:=fun w'=>w'.cell? ⟨qj,0,none⟩=some (.int .i64 aqC)∧w'.cell? ⟨gi,((jQ)).toNat,none⟩=some (.slice Bd (ah cv (jQ)).length BZ)∧w'.cell? ⟨gi,(aqC).toNat,none⟩=some (.slice sP (ah cv aqC).length ar_)) (ds:=[17,19]) (ba 20 0) (by kernel_rfl) rfl rfl ⟨cH eg,wW,mQ⟩ (fun hHeld=>?_);refine hJ aX.ajc aX.abX (fun ak bE=>?_)
       generalize w70.drew=asS at aqD aa eg rz HB PG Zp qA Bz ZJ wD Dr zH Ag afO wW mQ Aq agi hHeld ⊢
       refine pu 0 (some 90) (ba 20 1) ak (h:=?_)
       refine pu 2 (some 92) (ba 20 5) ak (h:=?_)
       refine pu 4 (some 94) (ba 20 21) ak (h:=?_)
       refine pu 6 (some 96) (ba 20 85) ak (h:=?_)
       refine pu 8 (some 98) (ba 20 341) ak (h:=?_)
       refine pu 12 (some 102) (ba 20 4437) ak (h:=?_)
       refine ta 1 (some 91) (ba 20 4439) ak bE hHeld (hy:=Or.inl ⟨by rfl,by rintro w' ⟨s0,s1,s2⟩;go_simp;with_reducible rfl⟩) (h:=?_)
       refine ta 7 (some 97) (ba 20 4567) ak bE hHeld (hy:=Or.inl ⟨by rfl,by rintro w' ⟨s0,s1,s2⟩;go_simp;with_reducible rfl⟩) (h:=?_)
       refine pu 9 (some 99) (ba 20 5079) ak (h:=?_)
       refine pu 10 (some 100) (ba 20 6103) ak (h:=?_)
       refine ta 11 (some 101) (ba 20 8151) ak bE hHeld (hy:=Or.inl ⟨by rfl,by rintro w' ⟨s0,s1,s2⟩;go_simp;with_reducible rfl⟩) (h:=?_)
       refine ta 13 (some 103) (ba 20 16343) ak bE hHeld (hy:=Or.inl ⟨by rfl,by rintro w' ⟨s0,s1,s2⟩;go_simp;with_reducible rfl⟩) (h:=?_)
       refine pu 14 (some 104) (ba 20 32727) ak (h:=?_)
       refine ta 15 (some 105) (ba 20 65495) ak bE hHeld (hy:=Or.inl ⟨by rfl,by rintro w' ⟨s0,s1,s2⟩;go_simp;with_reducible rfl⟩) (h:=?_)
       refine pu 16 (some 106) (ba 20 131031) ak (h:=?_)
       refine ahv (i:=3) (d:=17) (Ni:=some 93) (HH:=?fU) (l3:=(ba 20 262143)) (a3:=?a3_) (w3:=?w3_) (ba 20 131039) (ba 20 262103) rfl rfl rfl rfl (by kernel_rfl) (by decide) (fun hf K hK=>?A_) (fun hf K hK=>?B_) ?M_
       case A_ =>
        refine F4 (w1:=?_) (v:=?_) (by rfl) rfl ?_ ?_
        rotate_left 2
        ·go_simp
         constructor
         ·rfl
         ·rfl
        refine hK.out _ ?_
        clear hK K
        refine eV (a':=?_) ?_ ?_
        rotate_left;· show Act.put _ (some 93) _=_;simp only [Act.put,zI,zZ,zS,bJ,ck];rfl
        refine pu 5 (some 95) (ba 20 131071) ak (h:=?_)
        refine tD (i:=17) (N:=none) (ba 20 262143) rfl rfl (dU ak.out (by kernel_rfl)) (by decide) (fun K hK=>?_)
        refine oz (w1:=?_) (by rfl) rfl ?_ ?_
        rotate_left;· go_simp;rfl
        refine hK.out _ _ ?_
        clear hK K
        exact hf
       case B_ =>
        refine oz (w1:=?_) (by rfl) rfl ?_ ?_
        rotate_left;· go_simp;rfl
        refine hK.out _ _ ?_
        clear hK K
        have anP:∀ (Nk:Nat) (v_:Value),(World.setCell asS ⟨gi,Nk,none⟩ v_).cell? ⟨qj,0,none⟩=some (.int .i64 aqC):=fun Nk v_=>(cell_far (p:=⟨gi,Nk,none⟩) (fun h_=>(Kd.arl aqD.z eg.z (by decide)) (congrArg some h_)) v_).trans hHeld.1
        refine ahx (i:=3) (Ni:=some 93) (ba 20 262111) rfl rfl (by kernel_rfl) (fun K hK=>?_)
        refine F4 (w1:=?_) (v:=?_) (by rfl) rfl ?_ ?_
        rotate_left 2
        ·go_simp
         constructor
         ·rfl
         ·rfl
        refine hK.out _ ?_
        clear hK K
        refine eV (a':=?_) ?_ ?_
        rotate_left;· show Act.put _ (some 93) _=_;simp only [Act.put,zI,zZ,zS,bJ,ck];rfl
        refine pu 5 (some 95) (ba 20 262143) ak (h:=?_)
        exact hf
       refine pu 18 (some 107) (ba 20 524287) ak (h:=?_)
       refine tD (i:=19) (N:=none) (ba 20 1048575) rfl rfl (dU ak.out (by kernel_rfl)) (by decide) (fun K hK=>?_)
       refine oz (w1:=?_) (by rfl) rfl ?_ ?_
       rotate_left;· go_simp;rfl
       refine hK.out _ _ ?_
       clear hK K
       refine gx (gZ ak.out (by kernel_rfl)) ?_
       try go_wp2
       have fX:ai (Kd.S (Kd.slice 2 (Kd.int .i64)) 29 ((asS.setCell ⟨gi,(aqC:Int).toNat,none⟩ (.slice Bd (ah cv (jQ)).length BZ)).setCell ⟨gi,((jQ):Int).toNat,none⟩ (.slice sP (ah cv aqC).length ar_)) w.heap.size (fun _=>True) (.slice (some ⟨gi,0,none⟩) cv.length vS) eM):=⟨aS (Bz.out)⟩
       have fY:ai (((asS.setCell ⟨gi,(aqC:Int).toNat,none⟩ (.slice Bd (ah cv (jQ)).length BZ)).setCell ⟨gi,((jQ):Int).toNat,none⟩ (.slice sP (ah cv aqC).length ar_)).heap[aA]?=some (sO ag az af ay 26)):=⟨by (with_reducible repeat (first|refine arL ?_ _|refine cJ ?_|refine iW ?_ _));refine s7 ?_ (by have h_:=Kd.arl aqD.z aa.z (by decide);intro e_;exact h_ (by rw [e_];rfl)) _;(with_reducible repeat (first|refine arL ?_ _|refine cJ ?_|refine iW ?_ _));refine s7 ?_ (by have h_:=Kd.arl aqD.z aa.z (by decide);intro e_;exact h_ (by rw [e_];rfl)) _;exact bk⟩
       have iJ:ai (((asS.setCell ⟨gi,(aqC:Int).toNat,none⟩ (.slice Bd (ah cv (jQ)).length BZ)).setCell ⟨gi,((jQ):Int).toNat,none⟩ (.slice sP (ah cv aqC).length ar_)).heap[qj]?=some (.cells #[.int .i64 aqC] 3 (0,0))):=⟨by (with_reducible repeat (first|refine arL ?_ _|refine cJ ?_|refine iW ?_ _));refine s7 ?_ (by have h_:=Kd.arl aqD.z eg.z (by decide);intro e_;exact h_ (by rw [e_];rfl)) _;(with_reducible repeat (first|refine arL ?_ _|refine cJ ?_|refine iW ?_ _));refine s7 ?_ (by have h_:=Kd.arl aqD.z eg.z (by decide);intro e_;exact h_ (by rw [e_];rfl)) _;exact bk⟩
       have iK:ai (Below w.heap.size w ((asS.setCell ⟨gi,(aqC:Int).toNat,none⟩ (.slice Bd (ah cv (jQ)).length BZ)).setCell ⟨gi,((jQ):Int).toNat,none⟩ (.slice sP (ah cv aqC).length ar_))):=⟨aL HB.z⟩
       generalize ((asS.setCell ⟨gi,(aqC:Int).toNat,none⟩ (.slice Bd (ah cv (jQ)).length BZ)).setCell ⟨gi,((jQ):Int).toNat,none⟩ (.slice sP (ah cv aqC).length ar_))=OV at fX fY iJ iK ⊢
       have aqD:=fX
       have aa:=fY
       have eg:=iJ
       have HB:=iK
       clear fX fY iJ iK
       replace aqD:=k0 (Kd.gf aqD.z);replace aa:=k0 (cJ aa.z);replace eg:=k0 (cJ eg.z);replace HB:=k0 (aqW HB.z)
       have yL:0≤(aqC:Int):=oD
       have yU:aqC < (eM.length:Int):=(by have h_:(aqC:Int) < ((cv.length:Int):Int):=oD;first|(have e_:=(Kd.a_ aqD.z).1;omega)|simpa only [zL.z,List.length_set] using h_)
       have apc:((aqC:Int) < ((cv.length:Int):Int))=True:=eq_true oD
       obtain ⟨Ld,aj_,acu,e131,uY,U8,UJ⟩:=cD (Kd.a_ aqD.z).2.2 aqC yL yU
       obtain rfl:(⟨gi,0,none⟩:Addr)=Ld:=(by injection e131)
       obtain ⟨amW,afj,ae1,TT⟩:=Kd.aq9 aqD.z [] aqC yL (by first|exact yU|exact oD|(have e_:=(Kd.a_ aqD.z).1;omega))
       obtain ⟨apM,rfl,Ma⟩:=ae1
       have Fh:=TT 0 _ rfl
       rw [Nat.add_zero,show ((Kd.slice 2 (Kd.int .i64))).sz=1 from rfl,Nat.mul_one] at Fh
       replace Fh:=Option.some.inj (Fh.symm.trans uY)
       rw [Fh] at Ma
       have Zq:=k0 (show Kd.R (Kd.int .i64) 2 _ _ _ _ (ah eM aqC) from Ma)
       clear Fh Ma
       have ZP:=k0 uY
       clear TT afj
       (first|simp only [add_plain] at uY|simp only [nA] at uY|simp only [Addr.add,Nat.zero_add] at uY|skip)
       have Kw:=k0 UJ
       have alk:=k0 U8
       clear UJ U8
       replace yL:=eT yL
       replace yU:=eT yU
       obtain ⟨yM,yV⟩:=iN aqC ((ah eM aqC).length:Int)
       obtain ⟨G0,e132,Fz⟩:=Kd.bM (by repeat (first|(with_reducible exact Kw.z)|(with_reducible refine Kd.fP ?_ _)|(with_reducible refine Kd.fQ ?_ _)|(with_reducible refine Kd.fk ?_)|exact Kw.z)) aqC yM yV
       cases e132
       replace yM:=eT yM
       replace yV:=eT yV
       refine gz (n:=10) (S:=fun w'=>w'.cell? ⟨qj,0,none⟩=some (.int .i64 aqC)∧w'.cell? ⟨gi,(aqC).toNat,none⟩=some (.slice (some G0) (ah eM aqC).length acu)∧w'.cell? (G0.add (aqC).toNat)=some (.int .i64 (rd (ah eM aqC) aqC))) (ds:=[]) (ba 10 0) (by kernel_rfl) rfl rfl ⟨cH eg,uY,Fz⟩ (fun hHeld=>?_);refine hJ aX.Ow aX.Lj (fun ak bE=>?_)
       generalize OV.drew=w74 at aqD aa eg HB Zq Bz Kw ZP uY Fz hHeld ⊢
       refine pu 0 (some 108) (ba 10 1) ak (h:=?_)
       refine pu 7 (some 115) (ba 10 129) ak (h:=?_)
       refine ta 1 (some 109) (ba 10 131) ak bE hHeld (hy:=Or.inl ⟨by rfl,by rintro w' ⟨s0,s1,s2⟩;go_simp;with_reducible rfl⟩) (h:=?_)
       refine pu 2 (some 110) (ba 10 135) ak (h:=?_)
       refine ta 3 (some 111) (ba 10 143) ak bE hHeld (hy:=Or.inl ⟨by rfl,by rintro w' ⟨s0,s1,s2⟩;go_simp;with_reducible rfl⟩) (h:=?_)
       refine ta 4 (some 112) (ba 10 159) ak bE hHeld (hy:=Or.inl ⟨by rfl,by rintro w' ⟨s0,s1,s2⟩;go_simp;with_reducible rfl⟩) (h:=?_)
       refine pu 5 (some 113) (ba 10 191) ak (h:=?_)
       refine ta 6 (some 114) (ba 10 255) ak bE hHeld (hy:=Or.inl ⟨by rfl,by rintro w' ⟨s0,s1,s2⟩;go_simp;with_reducible rfl⟩) (h:=?_)
       refine eG (i:=8) (N:=some 116) (ba 10 511) rfl rfl (dU ak.out (by kernel_rfl)) (by decide) (fun K hK=>?_)
       refine iy Try.func108 (by kernel_rfl) rfl #[.int .i64 (rd (ah eM aqC) aqC),.int .i64 a1] (by rfl) rfl rfl gm ?_
       with_reducible refine (lC.calls k2 (rd (ah eM aqC) aqC) a1 t133 _ X8.z).mono ?_
       rintro e w' ⟨rfl,⟨nd,rfl⟩⟩
       refine ⟨_,rfl,?_⟩
       refine hK.out _ _ ⟨cH eg,hHeld.2.1,hHeld.2.2⟩ (fun hHeld=>?_)
       clear hK K
       refine eV (a':=?_) ?_ ?_
       rotate_left;· show Act.put _ (some 116) _=_;simp only [Act.put,zI,zZ,zS,bJ,ck];rfl
       refine pu 9 (some 17) (ba 10 1023) ak (h:=?_)
       refine gx (gZ ak.out (by kernel_rfl)) ?_
       obtain ⟨_,_⟩:=qg eg
       have IJ:0≤(aqC:Int):=oD
       have IW:aqC < (eM.length:Int):=(by have h_:(aqC:Int) < ((cv.length:Int):Int):=oD;first|(have e_:=(Kd.a_ aqD.z).1;omega)|simpa only [zL.z,List.length_set] using h_)
       have apd:((aqC:Int) < ((cv.length:Int):Int))=True:=eq_true oD
       obtain ⟨abw,akb,amm,e134,Cx,U',UL⟩:=cD (Kd.a_ aqD.z).2.2 aqC IJ IW
       obtain rfl:(⟨gi,0,none⟩:Addr)=abw:=(by injection e134)
       obtain ⟨amY,afl,ae3,TV⟩:=Kd.aq9 aqD.z [] aqC IJ (by first|exact IW|exact oD|(have e_:=(Kd.a_ aqD.z).1;omega))
       obtain ⟨apO,rfl,Mc⟩:=ae3
       have Fj:=TV 0 _ rfl
       rw [Nat.add_zero,show ((Kd.slice 2 (Kd.int .i64))).sz=1 from rfl,Nat.mul_one] at Fj
       replace Fj:=Option.some.inj (Fj.symm.trans Cx)
       rw [Fj] at Mc
       have alA:=k0 (show Kd.R (Kd.int .i64) 2 _ _ _ _ (ah eM aqC) from Mc)
       clear Fj Mc
       have alO:=k0 Cx
       clear TV afl
       (first|simp only [add_plain] at Cx|simp only [nA] at Cx|simp only [Addr.add,Nat.zero_add] at Cx|skip)
       have alK:=k0 UL
       have aln:=k0 U'
       clear UL U'
       replace IJ:=eT IJ
       replace IW:=eT IW
       have bC:=Option.some.inj (uY.symm.trans Cx)
       injection bC with bC eo ek
       subst bC
       subst ek
       clear eo
       try go_wp2
       go_loopg [122] k2 (fun kq F1 w'=>∃ (gA:List (List Int)) (arV:Int),F1=.int .i64 arV∧ai (aX.l3 kq a1 gA (wrap64 (2 * (af.length:Int))) t133 (wrap64 (2 * (af.length:Int))) aqC ((ah eM aqC).length:Int) arV aqC=some (r1,r2))∧ai (kq≤k2)∧ai (Kd.S (Kd.slice 2 (Kd.int .i64)) 29 w' w.heap.size (fun _=>True) (.slice (some ⟨gi,0,none⟩) cv.length vS) gA)∧ai (w'.heap[aA]?=some (sO ag az af ay 26))∧ai (w'.heap[qj]?=some (.cells #[.int .i64 aqC] 3 (0,0)))∧ai (Below w.heap.size w w'))
       case atStart=>exact ⟨(eM),(0),rs,H',⟨Nat.le_refl _⟩,⟨by (try simp only [cu]);(with_reducible repeat (first|apply Kd.iU|apply Kd.iV|apply Kd.gf));exact aqD.z⟩,⟨by (try simp only [cu]);exact bk⟩,⟨by (try simp only [cu]);exact bk⟩,⟨bl⟩⟩
       case round =>
        clear H'
        obtain ⟨gA,arV,rfl,HA,dR,aqD,aa,eg,HB⟩:=hrel
        have fA:=(Kd.a_ aqD.z).1
        rw [fA] at aqD
        (try simp only [fA])
        (try simp only [fA] at aa)
        (try simp only [fA] at eg)
        cases gk with
        | zero=>exact absurd HA.z (by simp [aX.l3])
        | succ k3 =>
         have H:=HA.z
         clear HA
         simp only [aX.l3] at H
         by_cases c76:arV < ((ah eM aqC).length:Int)
         case neg =>
          rw [if_neg c76] at H
          have DW:=decide_eq_false c76
          (try simp only [cu,fA] at DW)
          clear c76
          have H':=k0 H
          clear H
          go_wp2
          go_loopg [145] k3 (fun kq W3 w'=>∃ (arp:List (List Int)) (dy:Int),W3=.int .i64 dy∧ai (aX.l4 kq a1 arp (wrap64 (2 * (af.length:Int))) (wrap64 (2 * (af.length:Int))) aqC (gA.length:Int) dy aqC=some (r1,r2))∧ai (kq≤k3)∧ai (Kd.S (Kd.slice 2 (Kd.int .i64)) 29 w' w.heap.size (fun _=>True) (.slice (some ⟨gi,0,none⟩) gA.length vS) arp)∧ai (w'.heap[aA]?=some (sO ag az af ay 26))∧ai (w'.heap[qj]?=some (.cells #[.int .i64 aqC] 3 (0,0)))∧ai (Below w.heap.size w w'))
          case atStart=>exact ⟨(gA),(0),rs,H',⟨Nat.le_refl _⟩,⟨by (try simp only [cu]);(try simp only [fA]);(with_reducible repeat (first|apply Kd.iU|apply Kd.iV|apply Kd.gf));exact aqD.z⟩,⟨by (try simp only [cu]);(try simp only [fA]);exact bk⟩,⟨by (try simp only [cu]);(try simp only [fA]);exact bk⟩,⟨bl⟩⟩
          case round =>
           clear H'
           obtain ⟨arp,dy,rfl,HA,iu,aqD,aa,eg,HB⟩:=hrel
           have gU:=(Kd.a_ aqD.z).1
           rw [gU] at aqD
           (try simp only [gU])
           (try simp only [gU] at aa)
           (try simp only [gU] at eg)
           cases gk with
           | zero=>exact absurd HA.z (by simp [aX.l4])
           | succ k4 =>
            have H:=HA.z
            clear HA
            simp only [aX.l4] at H
            by_cases c86:dy < (gA.length:Int)
            case neg =>
             rw [if_neg c86] at H
             have asN:=decide_eq_false c86
             (try simp only [cu,fA,gU] at asN)
             clear c86
             have H':=k0 H
             clear H
             go_wp2
             (try simp only [← fA,← gU])
             first|go_roundg k4|(simp only [← lN];go_roundg k4)|(simp only [← gl];go_roundg k4)|(simp only [← eD];go_roundg k4)|(simp only [← lO];go_roundg k4)|((try (have e_:=tY.out;injection e_ with gO o5 gP;subst gO gP));(try (have e_:=tZ.out;injection e_ with gO o5 gP;subst gO gP));go_roundg k4)
             case measure=>have:=aI.z;have:=aqL.z;have:=dR.z;have:=iu.z;omega
             case rel=>exact ⟨(arp),(wrap64 (aqC+1)),rs,(by first|exact H'|(rw [lN];exact H')|(rw [gl];exact H')|(rw [eD];exact H')|(rw [lO];exact H')),⟨by have:=aI.z;have:=aqL.z;have:=dR.z;have:=iu.z;omega⟩,⟨by (try simp only [cu]);(try simp only [fA]);(try simp only [gU]);(with_reducible repeat (first|apply Kd.iU|apply Kd.iV|apply Kd.gf));exact aqD.z⟩,⟨by (try simp only [cu]);(try simp only [fA]);(try simp only [gU]);exact bk⟩,⟨bl⟩⟩
            rw [if_pos c86] at H
            have asN:=decide_eq_true c86
            (try simp only [cu,fA,gU] at asN)
            clear c86
            replace H:=iS H;obtain ⟨c87,H⟩:=H
            have Sb:=decide_eq_true c87
            clear c87
            replace H:=iS H;obtain ⟨c88,H⟩:=H
            have Sc:=decide_eq_true c88
            (try simp only [cu,fA,gU] at Sc)
            clear c88
            replace H:=iS H;obtain ⟨c89,H⟩:=H
            have Hf:=decide_eq_true c89
            clear c89
            replace H:=iS H;obtain ⟨c90,H⟩:=H
            have Sd:=decide_eq_true c90
            (try simp only [cu,fA,gU] at Sd)
            clear c90
            replace H:=iE H;obtain ⟨c91,LJ,adj,H⟩|⟨LJ,adj,H⟩:=H
            case inl =>
             replace H:=iE H;obtain ⟨c94,LK,adl,H⟩|⟨LK,adl,H⟩:=H
             case inl =>
              have H':=k0 H
              clear H
              obtain ⟨mj,lq⟩:=iN dy (arp.length:Int)
              obtain ⟨asJ,JG,DR,e141,lR,uP,uJ⟩:=cD (Kd.a_ aqD.z).2.2 dy mj lq
              obtain rfl:(⟨gi,0,none⟩:Addr)=asJ:=(by injection e141)
              obtain ⟨LN,Af,Ac,uE⟩:=Kd.aq9 aqD.z [] dy mj (by first|exact lq|exact oD|(have e_:=(Kd.a_ aqD.z).1;omega))
              obtain ⟨OQ,rfl,qN⟩:=Ac
              have arE:=uE 0 _ rfl
              rw [Nat.add_zero,show ((Kd.slice 2 (Kd.int .i64))).sz=1 from rfl,Nat.mul_one] at arE
              replace arE:=Option.some.inj (arE.symm.trans lR)
              rw [arE] at qN
              have GA:=k0 (show Kd.R (Kd.int .i64) 2 _ _ _ _ (ah arp dy) from qN)
              clear arE qN
              have BC:=k0 lR
              clear uE Af
              (first|simp only [add_plain] at lR|simp only [nA] at lR|simp only [Addr.add,Nat.zero_add] at lR|skip)
              have sW:=k0 uJ
              have Kb:=k0 uP
              clear uJ uP
              replace mj:=eT mj
              replace lq:=eT lq
              obtain ⟨_,_⟩:=nE BD
              obtain ⟨_,_⟩:=qg eg
              obtain ⟨qU,qZ⟩:=iN aqC ((ah arp dy).length:Int)
              obtain ⟨BR,e142,FB⟩:=Kd.bM (by repeat (first|(with_reducible exact sW.z)|(with_reducible refine Kd.fP ?_ _)|(with_reducible refine Kd.fQ ?_ _)|(with_reducible refine Kd.fk ?_)|exact sW.z)) aqC qU qZ
              cases e142
              replace qU:=eT qU
              replace qZ:=eT qZ
              go_wp2
              generalize Ut:(.slice (some BR) (ah arp dy).length DR:Value)=ajS
              have tZ:=k0 Ut
              clear Ut
              go_loopg [163] k4 (fun kq ajx w'=>∃ (jm:List (List Int)) (kE:Int),ajx=.int .i64 kE∧ai (aX.l5 kq a1 jm (wrap64 (2 * (af.length:Int))) dy (rd (ah arp dy) aqC) (wrap64 (2 * (af.length:Int))) aqC (gA.length:Int) dy ((ah arp dy).length:Int) kE aqC=some (r1,r2))∧ai (kq≤k4)∧ai (hO w' (.slice (some ⟨gi,0,none⟩) arp.length vS) dy ajS)∧ai (Kd.S (Kd.slice 2 (Kd.int .i64)) 29 w' w.heap.size (fun _=>True) (.slice (some ⟨gi,0,none⟩) arp.length vS) jm)∧ai (w'.heap[aA]?=some (sO ag az af ay 26))∧ai (w'.heap[qj]?=some (.cells #[.int .i64 aqC] 3 (0,0)))∧ai (Below w.heap.size w w'))
              case atStart=>exact ⟨(arp),(0),rs,H',⟨Nat.le_refl _⟩,⟨by (with_reducible repeat (first|apply hO.alloc|apply hO.drewN|apply hO.drew));first|exact ⟨_,_,_,rfl,(by first|exact of_eq_true mj|exact th nW.out|omega),(by first|exact of_eq_true lq|exact mM nW.out|(have h_:=of_eq_true lq;omega)|(have h_:=mM nW.out;omega)),BC.z⟩|(rw [← tZ.out];exact ⟨_,_,_,rfl,(by first|exact of_eq_true mj|exact th nW.out|omega),(by first|exact of_eq_true lq|exact mM nW.out|(have h_:=of_eq_true lq;omega)|(have h_:=mM nW.out;omega)),BC.z⟩)⟩,⟨by (try simp only [cu]);(try simp only [fA]);(try simp only [gU]);(with_reducible repeat (first|apply Kd.iU|apply Kd.iV|apply Kd.gf));exact aqD.z⟩,⟨by (try simp only [cu]);(try simp only [fA]);(try simp only [gU]);exact bk⟩,⟨by (try simp only [cu]);(try simp only [fA]);(try simp only [gU]);exact bk⟩,⟨bl⟩⟩
              case round =>
               clear H'
               obtain ⟨jm,kE,rfl,HA,jt,nW,aqD,aa,eg,HB⟩:=hrel
               have o8:=(Kd.a_ aqD.z).1
               rw [o8] at aqD
               (try simp only [o8])
               (try simp only [o8] at aa)
               (try simp only [o8] at eg)
               cases gk with
               | zero=>exact absurd HA.z (by simp [aX.l5])
               | succ k5 =>
                have H:=HA.z
                clear HA
                simp only [aX.l5] at H
                by_cases c99:kE < ((ah arp dy).length:Int)
                case neg =>
                 rw [if_neg c99] at H
                 have LL:=decide_eq_false c99
                 (try simp only [cu,fA,gU,o8] at LL)
                 clear c99
                 have H':=k0 H
                 clear H
                 have agp:decide (0≤dy)=true:=decide_eq_true (th nW.out)
                 have agr:decide (dy < (jm.length:Int))=true:=decide_eq_true (by have h_:=mM nW.out;have e_:=(Kd.a_ aqD.z).1;omega)
                 obtain ⟨vo,sA⟩:=iN dy (jm.length:Int)
                 obtain ⟨Lf,XP,acD,e143,uZ,ET,EL⟩:=cD (Kd.a_ aqD.z).2.2 dy vo sA
                 obtain rfl:(⟨gi,0,none⟩:Addr)=Lf:=(by injection e143)
                 obtain ⟨ado,MJ,Mw,EC⟩:=Kd.aq9 aqD.z [] dy vo (by first|exact sA|exact oD|(have e_:=(Kd.a_ aqD.z).1;omega))
                 obtain ⟨ajJ,rfl,z9⟩:=Mw
                 have uV:=EC 0 _ rfl
                 rw [Nat.add_zero,show ((Kd.slice 2 (Kd.int .i64))).sz=1 from rfl,Nat.mul_one] at uV
                 replace uV:=Option.some.inj (uV.symm.trans uZ)
                 rw [uV] at z9
                 have xG:=k0 (show Kd.R (Kd.int .i64) 2 _ _ _ _ (ah jm dy) from z9)
                 clear uV z9
                 have xM:=k0 uZ
                 clear EC MJ
                 (first|simp only [add_plain] at uZ|simp only [nA] at uZ|simp only [Addr.add,Nat.zero_add] at uZ|skip)
                 have BB:=k0 EL
                 have Zi:=k0 ET
                 clear EL ET
                 replace vo:=eT vo
                 replace sA:=eT sA
                 obtain rfl:=atk nW.out xM.z
                 go_wp2
                 (try simp only [← gU,← o8])
                 first|go_roundg k5|(simp only [← lN];go_roundg k5)|(simp only [← gl];go_roundg k5)|(simp only [← eD];go_roundg k5)|(simp only [← lO];go_roundg k5)|((try (have e_:=tY.out;injection e_ with gO o5 gP;subst gO gP));(try (have e_:=tZ.out;injection e_ with gO o5 gP;subst gO gP));go_roundg k5)
                 case measure=>have:=aI.z;have:=aqL.z;have:=dR.z;have:=iu.z;have:=jt.z;omega
                 case rel=>exact ⟨(jm),(wrap64 (dy+1)),rs,(by first|exact H'|(rw [lN];exact H')|(rw [gl];exact H')|(rw [eD];exact H')|(rw [lO];exact H')),⟨by have:=aI.z;have:=aqL.z;have:=dR.z;have:=iu.z;have:=jt.z;omega⟩,⟨by (try simp only [cu]);(try simp only [fA]);(try simp only [gU]);(try simp only [o8]);(with_reducible repeat (first|apply Kd.iU|apply Kd.iV|apply Kd.gf));exact aqD.z⟩,⟨by (try simp only [cu]);(try simp only [fA]);(try simp only [gU]);(try simp only [o8]);exact bk⟩,⟨by (try simp only [cu]);(try simp only [fA]);(try simp only [gU]);(try simp only [o8]);exact bk⟩,⟨bl⟩⟩
                rw [if_pos c99] at H
                have LL:=decide_eq_true c99
                (try simp only [cu,fA,gU,o8] at LL)
                clear c99
                replace H:=iS H;obtain ⟨c100,H⟩:=H
                have al_:=decide_eq_true c100
                clear c100
                replace H:=iS H;obtain ⟨c101,H⟩:=H
                have acd:=decide_eq_true c101
                (try simp only [cu,fA,gU,o8] at acd)
                clear c101
                replace H:=iS H;obtain ⟨c102,H⟩:=H
                have Lr:=decide_eq_true c102
                clear c102
                replace H:=iS H;obtain ⟨c103,H⟩:=H
                have RS:=decide_eq_true c103
                (try simp only [cu,fA,gU,o8] at RS)
                clear c103
                replace H:=iS H;obtain ⟨c104,H⟩:=H
                have RT:=decide_eq_true c104
                (try simp only [cu,fA,gU,o8] at RT)
                clear c104
                replace H:=bS H;obtain ⟨t147,XF,H⟩:=H
                obtain ⟨zi,Dz⟩:=nY ((ah jm dy).set (kE:Int).toNat t147:List Int)
                replace H:(aX.l5 k5 a1 (jm.set (dy:Int).toNat zi) (wrap64 (2 * (af.length:Int))) dy (rd (ah arp dy) aqC) (wrap64 (2 * (af.length:Int))) aqC (gA.length:Int) dy ((ah arp dy).length:Int) (wrap64 (kE+1)) aqC)=some (r1,r2):=rH Dz.z H
                obtain ⟨XB,QW⟩:=nY (jm.set (dy:Int).toNat zi:List (List Int))
                replace H:(aX.l5 k5 a1 XB (wrap64 (2 * (af.length:Int))) dy (rd (ah arp dy) aqC) (wrap64 (2 * (af.length:Int))) aqC (gA.length:Int) dy ((ah arp dy).length:Int) (wrap64 (kE+1)) aqC)=some (r1,r2):=rH QW.z H
                have H':=k0 H
                clear H
                have agp:decide (0≤dy)=true:=decide_eq_true (th nW.out)
                have agr:decide (dy < (jm.length:Int))=true:=decide_eq_true (by have h_:=mM nW.out;have e_:=(Kd.a_ aqD.z).1;omega)
                obtain ⟨vo,sA⟩:=iN dy (jm.length:Int)
                obtain ⟨Lf,XP,acD,e143,uZ,ET,EL⟩:=cD (Kd.a_ aqD.z).2.2 dy vo sA
                obtain rfl:(⟨gi,0,none⟩:Addr)=Lf:=(by injection e143)
                obtain ⟨ado,MJ,Mw,EC⟩:=Kd.aq9 aqD.z [] dy vo (by first|exact sA|exact oD|(have e_:=(Kd.a_ aqD.z).1;omega))
                obtain ⟨ajJ,rfl,z9⟩:=Mw
                have uV:=EC 0 _ rfl
                rw [Nat.add_zero,show ((Kd.slice 2 (Kd.int .i64))).sz=1 from rfl,Nat.mul_one] at uV
                replace uV:=Option.some.inj (uV.symm.trans uZ)
                rw [uV] at z9
                have xG:=k0 (show Kd.R (Kd.int .i64) 2 _ _ _ _ (ah jm dy) from z9)
                clear uV z9
                have xM:=k0 uZ
                clear EC MJ
                (first|simp only [add_plain] at uZ|simp only [nA] at uZ|simp only [Addr.add,Nat.zero_add] at uZ|skip)
                have BB:=k0 EL
                have Zi:=k0 ET
                clear EL ET
                replace vo:=eT vo
                replace sA:=eT sA
                obtain rfl:=atk nW.out xM.z
                try go_wp2
                replace aqD:=k0 (Kd.gf aqD.z);replace xG:=k0 (Kd.fG xG.z);replace aa:=k0 (cJ aa.z);replace eg:=k0 (cJ eg.z);replace BB:=k0 (Kd.fk BB.z);replace xM:=k0 ((show (wr.drew).cell? _=some _ from xM.z));replace HB:=k0 (aqW HB.z)
                obtain ⟨NN,N4⟩:=iN kE ((ah jm dy).length:Int)
                obtain ⟨abA,e144,Ig⟩:=Kd.bM (by repeat (first|(with_reducible exact BB.z)|(with_reducible refine Kd.fP ?_ _)|(with_reducible refine Kd.fQ ?_ _)|(with_reducible refine Kd.fk ?_)|exact BB.z)) kE NN N4
                cases e144
                replace NN:=eT NN
                replace N4:=eT N4
                obtain ⟨IM,IZ⟩:=iN aqC (jm.length:Int)
                obtain ⟨abB,akg,acE,e145,Ap,Vd,UQ⟩:=cD (Kd.a_ aqD.z).2.2 aqC IM IZ
                obtain rfl:(⟨gi,0,none⟩:Addr)=abB:=(by injection e145)
                obtain ⟨am3,afq,ae8,atB⟩:=Kd.aq9 aqD.z [] aqC IM (by first|exact IZ|exact oD|(have e_:=(Kd.a_ aqD.z).1;omega))
                obtain ⟨apT,rfl,Mh⟩:=ae8
                have Fp:=atB 0 _ rfl
                rw [Nat.add_zero,show ((Kd.slice 2 (Kd.int .i64))).sz=1 from rfl,Nat.mul_one] at Fp
                replace Fp:=Option.some.inj (Fp.symm.trans Ap)
                rw [Fp] at Mh
                have Zs:=k0 (show Kd.R (Kd.int .i64) 2 _ _ _ _ (ah jm aqC) from Mh)
                clear Fp Mh
                have ZR:=k0 Ap
                clear atB afq
                (first|simp only [add_plain] at Ap|simp only [nA] at Ap|simp only [Addr.add,Nat.zero_add] at Ap|skip)
                have Kz:=k0 UQ
                have alu:=k0 Vd
                clear UQ Vd
                replace IM:=eT IM
                replace IZ:=eT IZ
                obtain ⟨NP,N5⟩:=iN kE ((ah jm aqC).length:Int)
                obtain ⟨Ry,e146,VC⟩:=Kd.bM (by repeat (first|(with_reducible exact Kz.z)|(with_reducible refine Kd.fP ?_ _)|(with_reducible refine Kd.fQ ?_ _)|(with_reducible refine Kd.fk ?_)|exact Kz.z)) kE NP N5
                cases e146
                replace NP:=eT NP
                replace N5:=eT N5
                refine gz (n:=20) (S:=fun w'=>w'.cell? ⟨qj,0,none⟩=some (.int .i64 aqC)∧w'.cell? (abA.add (kE).toNat)=some (.int .i64 (rd (ah jm dy) kE))∧w'.cell? ⟨gi,(aqC).toNat,none⟩=some (.slice (some Ry) (ah jm aqC).length acE)∧w'.cell? (Ry.add (kE).toNat)=some (.int .i64 (rd (ah jm aqC) kE))) (ds:=[19]) (ba 20 0) (by kernel_rfl) rfl rfl ⟨cH eg,Ig,Ap,VC⟩ (fun hHeld=>?_);refine hJ aX.ajf aX.ab0 (fun ak bE=>?_)
                generalize wr.drew=W_ at aqD xG aa eg BB xM HB Zs Kz ZR Ig Ap VC hHeld ⊢
                refine pu 0 (some 166) (ba 20 1) ak (h:=?_)
                refine pu 1 (some 167) (ba 20 3) ak (h:=?_)
                refine pu 2 (some 168) (ba 20 7) ak (h:=?_)
                refine pu 3 (some 169) (ba 20 15) ak (h:=?_)
                refine pu 4 (some 170) (ba 20 31) ak (h:=?_)
                refine pu 6 (some 172) (ba 20 95) ak (h:=?_)
                refine pu 7 (some 173) (ba 20 223) ak (h:=?_)
                refine pu 11 (some 177) (ba 20 2271) ak (h:=?_)
                refine pu 16 (some 182) (ba 20 67807) ak (h:=?_)
                refine ta 5 (some 171) (ba 20 67839) ak bE hHeld (hy:=Or.inl ⟨by rfl,by rintro w' ⟨s0,s1,s2,s3⟩;go_simp;with_reducible rfl⟩) (h:=?_)
                refine ta 8 (some 174) (ba 20 68095) ak bE hHeld (hy:=Or.inl ⟨by rfl,by rintro w' ⟨s0,s1,s2,s3⟩;go_simp;with_reducible rfl⟩) (h:=?_)
                refine pu 9 (some 175) (ba 20 68607) ak (h:=?_)
                refine ta 10 (some 176) (ba 20 69631) ak bE hHeld (hy:=Or.inl ⟨by rfl,by rintro w' ⟨s0,s1,s2,s3⟩;go_simp;with_reducible rfl⟩) (h:=?_)
                refine pu 12 (some 178) (ba 20 73727) ak (h:=?_)
                refine ta 13 (some 179) (ba 20 81919) ak bE hHeld (hy:=Or.inl ⟨by rfl,by rintro w' ⟨s0,s1,s2,s3⟩;go_simp;with_reducible rfl⟩) (h:=?_)
                refine pu 14 (some 180) (ba 20 98303) ak (h:=?_)
                refine pu 15 (some 181) (ba 20 131071) ak (h:=?_)
                refine eG (i:=17) (N:=some 183) (ba 20 262143) rfl rfl (dU ak.out (by kernel_rfl)) (by decide) (fun K hK=>?_)
                refine iy Try.func86 (by kernel_rfl) rfl #[.int .i64 (wrap64 ((rd (ah jm dy) kE) - (wrap64 ((rd (ah arp dy) aqC) * (rd (ah jm aqC) kE))))),.int .i64 a1] (by rfl) rfl rfl gm ?_
                with_reducible refine (tX.calls (wrap64 ((rd (ah jm dy) kE) - (wrap64 ((rd (ah arp dy) aqC) * (rd (ah jm aqC) kE))))) a1 t147 _ XF.z).mono ?_
                rintro e w' ⟨rfl,⟨nd,rfl⟩⟩
                refine ⟨_,rfl,?_⟩
                have gQ:0≤(kE:Int):=oD
                have aq_:(kE:Int) < (((ah jm dy).length:Int):Int):=oD
                obtain ⟨anN,ano,SL,Cf,aeB,ana,PO⟩:=Kd.qG xG.z (by omega)
                (first|cases SL|(injection SL with bC eo ek;(first|subst bC|(injection bC with bC;subst bC));subst ek;clear eo))
                (first|simp only [add_plain] at Ig|skip)
                have akI:=k0 Cf
                have ak0:=k0 PO
                clear Cf aeB PO
                (first|simp only [add_plain] at Ig|skip)
                obtain ⟨gV,an0⟩:=Kd.kR 0 xG.z (kE:Int) gQ aq_
                replace gQ:=eT gQ
                replace aq_:=eT aq_
                have af2:(dy:Int) < (jm.length:Int):=(by have h_:(dy:Int) < ((jm.length:Int):Int):=oD;first|exact h_|(have e_:=(Kd.a_ aqD.z).1;omega)|simpa only [List.length_set,List.length_set] using h_)
                obtain ⟨ao3,Se,aft,aeO,yd,Vk,TF⟩:=Kd.zO aqD.z [] (dy:Int) oD (by first|exact af2|(have e_:=(Kd.a_ aqD.z).1;omega))
                obtain ⟨W5,rfl,si⟩:=aeO
                have H7:=yd 0 _ rfl
                rw [Nat.add_zero,show ((Kd.slice 2 (Kd.int .i64))).sz=1 from rfl,Nat.mul_one] at H7
                replace H7:=Option.some.inj (H7.symm.trans xM.z)
                subst H7
                clear yd aft
                replace si:=(show Kd.R (Kd.int .i64) 2 _ _ _ _ (ah jm dy) from si)
                have Bv:=Kd.ar0 si (kE:Int) t147
                have Qw:=k0 (r8 Bv.2 xM.z (z3 (Vk _ (si.1 _ rfl)).2))
                rw [← Dz.z] at Bv
                have alE:=k0 Bv.1
                have KA:=TF Bv.2 (fun k_ e_=>by injection e_ with e_;subst e_;exact si.1 _ rfl) (x':=zi) (Kd.lD Bv.1)
                rw [← QW.z] at KA
                have ZC:=k0 KA
                clear Bv KA TF Vk
                refine hK.out _ _ ⟨cH eg,hHeld.2.1,hHeld.2.2.1,hHeld.2.2.2⟩ (fun hHeld=>?_)
                clear hK K
                refine eV (a':=?_) ?_ ?_
                rotate_left;· show Act.put _ (some 183) _=_;simp only [Act.put,zI,zZ,zS,bJ,ck];rfl
                refine pu 18 (some 184) (ba 20 524287) ak (h:=?_)
                refine tD (i:=19) (N:=none) (ba 20 1048575) rfl rfl (dU ak.out (by kernel_rfl)) (by decide) (fun K hK=>?_)
                refine oz (w1:=?_) (by rfl) rfl ?_ ?_
                rotate_left;· go_simp;rfl
                refine hK.out _ _ ?_
                clear hK K
                refine gx (gZ ak.out (by kernel_rfl)) ?_
                try go_wp2
                (try simp only [← o8])
                first|go_roundg k5|(simp only [← lN];go_roundg k5)|(simp only [← gl];go_roundg k5)|(simp only [← eD];go_roundg k5)|(simp only [← lO];go_roundg k5)|((try (have e_:=tY.out;injection e_ with gO o5 gP;subst gO gP));(try (have e_:=tZ.out;injection e_ with gO o5 gP;subst gO gP));go_roundg k5)
                case measure=>have:=aI.z;have:=aqL.z;have:=dR.z;have:=iu.z;have:=jt.z;omega
                case rel=>exact ⟨(XB),(wrap64 (kE+1)),rs,(by first|exact H'|(rw [lN];exact H')|(rw [gl];exact H')|(rw [eD];exact H')|(rw [lO];exact H')),⟨by have:=aI.z;have:=aqL.z;have:=dR.z;have:=iu.z;have:=jt.z;omega⟩,⟨by (with_reducible repeat (first|apply hO.alloc|apply hO.drewN|apply hO.drew));first|exact ⟨_,_,_,rfl,(by first|exact of_eq_true vo|exact th nW.out|omega),(by first|exact of_eq_true sA|exact mM nW.out|(have h_:=of_eq_true sA;omega)|(have h_:=mM nW.out;omega)),Qw.z⟩|(rw [← tZ.out];exact ⟨_,_,_,rfl,(by first|exact of_eq_true vo|exact th nW.out|omega),(by first|exact of_eq_true sA|exact mM nW.out|(have h_:=of_eq_true sA;omega)|(have h_:=mM nW.out;omega)),Qw.z⟩)⟩,⟨by (try simp only [cu]);(try simp only [fA]);(try simp only [gU]);(try simp only [o8]);(with_reducible repeat (first|apply Kd.iU|apply Kd.iV|apply Kd.gf));exact ZC.out⟩,⟨by (try simp only [cu]);(try simp only [fA]);(try simp only [gU]);(try simp only [o8]);(with_reducible repeat (first|refine arL ?_ _|refine cJ ?_|refine iW ?_ _));refine s7 ?_ (by have h_:=Kd.aro xG.z aa.z (by decide);intro e_;exact h_ (by rw [e_];rfl)) _;exact bk⟩,⟨by (try simp only [cu]);(try simp only [fA]);(try simp only [gU]);(try simp only [o8]);(with_reducible repeat (first|refine arL ?_ _|refine cJ ?_|refine iW ?_ _));refine s7 ?_ (by have h_:=Kd.aro xG.z eg.z (by decide);intro e_;exact h_ (by rw [e_];rfl)) _;exact bk⟩,⟨aL HB.z⟩⟩
             have H':=k0 H
             clear H
             obtain ⟨mj,lq⟩:=iN dy (arp.length:Int)
             obtain ⟨asJ,JG,DR,e141,lR,uP,uJ⟩:=cD (Kd.a_ aqD.z).2.2 dy mj lq
             obtain rfl:(⟨gi,0,none⟩:Addr)=asJ:=(by injection e141)
             obtain ⟨LN,Af,Ac,uE⟩:=Kd.aq9 aqD.z [] dy mj (by first|exact lq|exact oD|(have e_:=(Kd.a_ aqD.z).1;omega))
             obtain ⟨OQ,rfl,qN⟩:=Ac
             have arE:=uE 0 _ rfl
             rw [Nat.add_zero,show ((Kd.slice 2 (Kd.int .i64))).sz=1 from rfl,Nat.mul_one] at arE
             replace arE:=Option.some.inj (arE.symm.trans lR)
             rw [arE] at qN
             have GA:=k0 (show Kd.R (Kd.int .i64) 2 _ _ _ _ (ah arp dy) from qN)
             clear arE qN
             have BC:=k0 lR
             clear uE Af
             (first|simp only [add_plain] at lR|simp only [nA] at lR|simp only [Addr.add,Nat.zero_add] at lR|skip)
             have sW:=k0 uJ
             have Kb:=k0 uP
             clear uJ uP
             replace mj:=eT mj
             replace lq:=eT lq
             obtain ⟨_,_⟩:=nE BD
             obtain ⟨_,_⟩:=qg eg
             obtain ⟨qU,qZ⟩:=iN aqC ((ah arp dy).length:Int)
             obtain ⟨BR,e142,FB⟩:=Kd.bM (by repeat (first|(with_reducible exact sW.z)|(with_reducible refine Kd.fP ?_ _)|(with_reducible refine Kd.fQ ?_ _)|(with_reducible refine Kd.fk ?_)|exact sW.z)) aqC qU qZ
             cases e142
             replace qU:=eT qU
             replace qZ:=eT qZ
             go_wp2
             (try simp only [← gU])
             first|go_roundg k4|(simp only [← lN];go_roundg k4)|(simp only [← gl];go_roundg k4)|(simp only [← eD];go_roundg k4)|(simp only [← lO];go_roundg k4)|((try (have e_:=tY.out;injection e_ with gO o5 gP;subst gO gP));(try (have e_:=tZ.out;injection e_ with gO o5 gP;subst gO gP));go_roundg k4)
             case measure=>have:=aI.z;have:=aqL.z;have:=dR.z;have:=iu.z;omega
             case rel=>exact ⟨(arp),(wrap64 (dy+1)),rs,(by first|exact H'|(rw [lN];exact H')|(rw [gl];exact H')|(rw [eD];exact H')|(rw [lO];exact H')),⟨by have:=aI.z;have:=aqL.z;have:=dR.z;have:=iu.z;omega⟩,⟨by (try simp only [cu]);(try simp only [fA]);(try simp only [gU]);(with_reducible repeat (first|apply Kd.iU|apply Kd.iV|apply Kd.gf));exact aqD.z⟩,⟨by (try simp only [cu]);(try simp only [fA]);(try simp only [gU]);exact bk⟩,⟨by (try simp only [cu]);(try simp only [fA]);(try simp only [gU]);exact bk⟩,⟨bl⟩⟩
            have H':=k0 H
            clear H
            obtain ⟨mj,lq⟩:=iN dy (arp.length:Int)
            obtain ⟨asJ,JG,DR,e141,lR,uP,uJ⟩:=cD (Kd.a_ aqD.z).2.2 dy mj lq
            obtain rfl:(⟨gi,0,none⟩:Addr)=asJ:=(by injection e141)
            obtain ⟨LN,Af,Ac,uE⟩:=Kd.aq9 aqD.z [] dy mj (by first|exact lq|exact oD|(have e_:=(Kd.a_ aqD.z).1;omega))
            obtain ⟨OQ,rfl,qN⟩:=Ac
            have arE:=uE 0 _ rfl
            rw [Nat.add_zero,show ((Kd.slice 2 (Kd.int .i64))).sz=1 from rfl,Nat.mul_one] at arE
            replace arE:=Option.some.inj (arE.symm.trans lR)
            rw [arE] at qN
            have GA:=k0 (show Kd.R (Kd.int .i64) 2 _ _ _ _ (ah arp dy) from qN)
            clear arE qN
            have BC:=k0 lR
            clear uE Af
            (first|simp only [add_plain] at lR|simp only [nA] at lR|simp only [Addr.add,Nat.zero_add] at lR|skip)
            have sW:=k0 uJ
            have Kb:=k0 uP
            clear uJ uP
            replace mj:=eT mj
            replace lq:=eT lq
            obtain ⟨_,_⟩:=nE BD
            obtain ⟨_,_⟩:=qg eg
            obtain ⟨qU,qZ⟩:=iN aqC ((ah arp dy).length:Int)
            obtain ⟨BR,e142,FB⟩:=Kd.bM (by repeat (first|(with_reducible exact sW.z)|(with_reducible refine Kd.fP ?_ _)|(with_reducible refine Kd.fQ ?_ _)|(with_reducible refine Kd.fk ?_)|exact sW.z)) aqC qU qZ
            cases e142
            replace qU:=eT qU
            replace qZ:=eT qZ
            go_wp2
            (try simp only [← gU])
            first|go_roundg k4|(simp only [← lN];go_roundg k4)|(simp only [← gl];go_roundg k4)|(simp only [← eD];go_roundg k4)|(simp only [← lO];go_roundg k4)|((try (have e_:=tY.out;injection e_ with gO o5 gP;subst gO gP));(try (have e_:=tZ.out;injection e_ with gO o5 gP;subst gO gP));go_roundg k4)
            case measure=>have:=aI.z;have:=aqL.z;have:=dR.z;have:=iu.z;omega
            case rel=>exact ⟨(arp),(wrap64 (dy+1)),rs,(by first|exact H'|(rw [lN];exact H')|(rw [gl];exact H')|(rw [eD];exact H')|(rw [lO];exact H')),⟨by have:=aI.z;have:=aqL.z;have:=dR.z;have:=iu.z;omega⟩,⟨by (try simp only [cu]);(try simp only [fA]);(try simp only [gU]);(with_reducible repeat (first|apply Kd.iU|apply Kd.iV|apply Kd.gf));exact aqD.z⟩,⟨by (try simp only [cu]);(try simp only [fA]);(try simp only [gU]);exact bk⟩,⟨by (try simp only [cu]);(try simp only [fA]);(try simp only [gU]);exact bk⟩,⟨bl⟩⟩
         rw [if_pos c76] at H
         have DW:=decide_eq_true c76
         (try simp only [cu,fA] at DW)
         clear c76
         replace H:=iS H;obtain ⟨c77,H⟩:=H
         have ada:=decide_eq_true c77
         clear c77
         replace H:=iS H;obtain ⟨c78,H⟩:=H
         have LH:=decide_eq_true c78
         (try simp only [cu,fA] at LH)
         clear c78
         replace H:=iS H;obtain ⟨c79,H⟩:=H
         have R9:=decide_eq_true c79
         clear c79
         replace H:=iS H;obtain ⟨c80,H⟩:=H
         have R_:=decide_eq_true c80
         (try simp only [cu,fA] at R_)
         clear c80
         by_cases c81:a1=0
         case neg =>
          rw [if_neg c81] at H
          have B7:=beq_eq_false_iff_ne.mpr c81
          have Sa:=bne_iff_ne.mpr c81
          obtain ⟨xp,BG⟩:=nY ((ah gA aqC).set (arV:Int).toNat (Int.tmod (wrap64 ((rd (ah gA aqC) arV) * t133)) a1):List Int)
          replace H:(aX.l3 k3 a1 (gA.set (aqC:Int).toNat xp) (wrap64 (2 * (af.length:Int))) t133 (wrap64 (2 * (af.length:Int))) aqC ((ah eM aqC).length:Int) (wrap64 (arV+1)) aqC)=some (r1,r2):=rH BG.z H
          obtain ⟨Xy,QS⟩:=nY (gA.set (aqC:Int).toNat xp:List (List Int))
          replace H:(aX.l3 k3 a1 Xy (wrap64 (2 * (af.length:Int))) t133 (wrap64 (2 * (af.length:Int))) aqC ((ah eM aqC).length:Int) (wrap64 (arV+1)) aqC)=some (r1,r2):=rH QS.z H
          have H':=k0 H
          clear H
          try go_wp2
          replace aqD:=k0 (Kd.gf aqD.z);replace aa:=k0 (cJ aa.z);replace eg:=k0 (cJ eg.z);replace HB:=k0 (aqW HB.z)
          obtain ⟨IK,IX⟩:=iN aqC (gA.length:Int)
          obtain ⟨abx,akc,RW,e135,yz,U_,UM⟩:=cD (Kd.a_ aqD.z).2.2 aqC IK IX
          obtain rfl:(⟨gi,0,none⟩:Addr)=abx:=(by injection e135)
          obtain ⟨amZ,afm,ae4,TW⟩:=Kd.aq9 aqD.z [] aqC IK (by first|exact IX|exact oD|(have e_:=(Kd.a_ aqD.z).1;omega))
          obtain ⟨apP,rfl,Md⟩:=ae4
          have Fk:=TW 0 _ rfl
          rw [Nat.add_zero,show ((Kd.slice 2 (Kd.int .i64))).sz=1 from rfl,Nat.mul_one] at Fk
          replace Fk:=Option.some.inj (Fk.symm.trans yz)
          rw [Fk] at Md
          have Dg:=k0 (show Kd.R (Kd.int .i64) 2 _ _ _ _ (ah gA aqC) from Md)
          clear Fk Md
          have KH:=k0 yz
          clear TW afm
          (first|simp only [add_plain] at yz|simp only [nA] at yz|simp only [Addr.add,Nat.zero_add] at yz|skip)
          have ZK:=k0 UM
          have alp:=k0 U_
          clear UM U_
          replace IK:=eT IK
          replace IX:=eT IX
          obtain ⟨IL,IY⟩:=iN aqC (gA.length:Int)
          obtain ⟨aby,akd,amn,e136,yA,Va,UN⟩:=cD (Kd.a_ aqD.z).2.2 aqC IL IY
          obtain rfl:(⟨gi,0,none⟩:Addr)=aby:=(by injection e136)
          obtain ⟨am0,afn,ae5,TX⟩:=Kd.aq9 aqD.z [] aqC IL (by first|exact IY|exact oD|(have e_:=(Kd.a_ aqD.z).1;omega))
          obtain ⟨apQ,rfl,Me⟩:=ae5
          have Fl:=TX 0 _ rfl
          rw [Nat.add_zero,show ((Kd.slice 2 (Kd.int .i64))).sz=1 from rfl,Nat.mul_one] at Fl
          replace Fl:=Option.some.inj (Fl.symm.trans yA)
          rw [Fl] at Me
          have Zr:=k0 (show Kd.R (Kd.int .i64) 2 _ _ _ _ (ah gA aqC) from Me)
          clear Fl Me
          have ZQ:=k0 yA
          clear TX afn
          (first|simp only [add_plain] at yA|simp only [nA] at yA|simp only [Addr.add,Nat.zero_add] at yA|skip)
          have Ky:=k0 UN
          have alq:=k0 Va
          clear UN Va
          replace IL:=eT IL
          replace IY:=eT IY
          have bC:=Option.some.inj (yz.symm.trans yA)
          injection bC with bC eo ek
          subst bC
          subst ek
          clear eo
          obtain ⟨yN,yX⟩:=iN arV ((ah gA aqC).length:Int)
          obtain ⟨Rx,e137,Ao⟩:=Kd.bM (by repeat (first|(with_reducible exact Ky.z)|(with_reducible refine Kd.fP ?_ _)|(with_reducible refine Kd.fQ ?_ _)|(with_reducible refine Kd.fk ?_)|exact Ky.z)) arV yN yX
          cases e137
          replace yN:=eT yN
          replace yX:=eT yX
          have NX:0≤(arV:Int):=oD
          have Oe:(arV:Int) < (((ah gA aqC).length:Int):Int):=oD
          obtain ⟨Mq,adJ,S1,Tp,aeM,anm,P1⟩:=Kd.qG Dg.z (by omega)
          (first|cases S1|(injection S1 with bC eo ek;(first|subst bC|(injection bC with bC;subst bC));subst ek;clear eo))
          (first|simp only [add_plain] at Ao|skip)
          have akL:=k0 Tp
          have Y1:=k0 P1
          clear Tp aeM P1
          (first|simp only [add_plain] at Ao|skip)
          obtain ⟨agj,afP⟩:=Kd.kR 0 Dg.z (arV:Int) NX Oe
          replace NX:=eT NX
          replace Oe:=eT Oe
          have af5:(aqC:Int) < (gA.length:Int):=(by have h_:(aqC:Int) < ((gA.length:Int):Int):=oD;first|exact h_|(have e_:=(Kd.a_ aqD.z).1;omega)|simpa only [List.length_set,List.length_set] using h_)
          obtain ⟨ao4,am9,afx,aeS,T7,Vl,TI⟩:=Kd.zO aqD.z [] (aqC:Int) oD (by first|exact af5|(have e_:=(Kd.a_ aqD.z).1;omega))
          obtain ⟨apZ,rfl,Er⟩:=aeS
          have H_:=T7 0 _ rfl
          rw [Nat.add_zero,show ((Kd.slice 2 (Kd.int .i64))).sz=1 from rfl,Nat.mul_one] at H_
          replace H_:=Option.some.inj (H_.symm.trans KH.z)
          subst H_
          clear T7 afx
          replace Er:=(show Kd.R (Kd.int .i64) 2 _ _ _ _ (ah gA aqC) from Er)
          have Bw:=Kd.ar0 Er (arV:Int) (Int.tmod (wrap64 ((rd (ah gA aqC) arV) * t133)) a1)
          have ZT:=k0 (r8 Bw.2 KH.z (z3 (Vl _ (Er.1 _ rfl)).2))
          rw [← BG.z] at Bw
          have alG:=k0 Bw.1
          have KD:=TI Bw.2 (fun k_ e_=>by injection e_ with e_;subst e_;exact Er.1 _ rfl) (x':=xp) (Kd.lD Bw.1)
          rw [← QS.z] at KD
          have Qk:=k0 KD
          clear Bw KD TI Vl
          refine gz (n:=18) (S:=fun w'=>w'.cell? ⟨qj,0,none⟩=some (.int .i64 aqC)∧w'.cell? ⟨gi,(aqC).toNat,none⟩=some (.slice (some ⟨Mq,0,none⟩) (ah gA aqC).length RW)∧w'.cell? ⟨gi,(aqC).toNat,none⟩=some (.slice (some ⟨Mq,0,none⟩) (ah gA aqC).length RW)∧w'.cell? ⟨Mq,(arV).toNat,none⟩=some (.int .i64 (rd (ah gA aqC) arV))) (ds:=[17]) (ba 18 0) (by kernel_rfl) rfl rfl ⟨cH eg,yz,yA,Ao⟩ (fun hHeld=>?_);refine hJ aX.ajd aX.abY (fun ak bE=>?_)
          generalize wr.drew=w83 at aqD aa eg HB Y1 Dg Zr Qk ZK Ky KH ZQ ZT afP yz yA Ao agj hHeld ⊢
          refine pu 0 (some 125) (ba 18 1) ak (h:=?_)
          refine pu 4 (some 129) (ba 18 17) ak (h:=?_)
          refine pu 5 (some 130) (ba 18 49) ak (h:=?_)
          refine pu 9 (some 134) (ba 18 561) ak (h:=?_)
          refine pu 12 (some 137) (ba 18 4657) ak (h:=?_)
          refine pu 14 (some 139) (ba 18 21041) ak (h:=?_)
          refine ta 1 (some 126) (ba 18 21043) ak bE hHeld (hy:=Or.inl ⟨by rfl,by rintro w' ⟨s0,s1,s2,s3⟩;go_simp;with_reducible rfl⟩) (h:=?_)
          refine pu 2 (some 127) (ba 18 21047) ak (h:=?_)
          refine ta 3 (some 128) (ba 18 21055) ak bE hHeld (hy:=Or.inl ⟨by rfl,by rintro w' ⟨s0,s1,s2,s3⟩;go_simp;with_reducible rfl⟩) (h:=?_)
          refine ta 6 (some 131) (ba 18 21119) ak bE hHeld (hy:=Or.inl ⟨by rfl,by rintro w' ⟨s0,s1,s2,s3⟩;go_simp;with_reducible rfl⟩) (h:=?_)
          refine pu 7 (some 132) (ba 18 21247) ak (h:=?_)
          refine ta 8 (some 133) (ba 18 21503) ak bE hHeld (hy:=Or.inl ⟨by rfl,by rintro w' ⟨s0,s1,s2,s3⟩;go_simp;with_reducible rfl⟩) (h:=?_)
          refine pu 10 (some 135) (ba 18 22527) ak (h:=?_)
          refine ta 11 (some 136) (ba 18 24575) ak bE hHeld (hy:=Or.inl ⟨by rfl,by rintro w' ⟨s0,s1,s2,s3⟩;go_simp;with_reducible rfl⟩) (h:=?_)
          refine pu 13 (some 138) (ba 18 32767) ak (h:=?_)
          refine pu 15 (some 140) (ba 18 65535) ak (h:=?_)
          refine pu 16 (some 141) (ba 18 131071) ak (h:=?_)
          refine tD (i:=17) (N:=none) (ba 18 262143) rfl rfl (dU ak.out (by kernel_rfl)) (by decide) (fun K hK=>?_)
          refine oz (w1:=?_) (by rfl) rfl ?_ ?_
          rotate_left;· go_simp;rfl
          refine hK.out _ _ ?_
          clear hK K
          refine gx (gZ ak.out (by kernel_rfl)) ?_
          try go_wp2
          (try simp only [← fA])
          first|go_roundg k3|(simp only [← lN];go_roundg k3)|(simp only [← gl];go_roundg k3)|(simp only [← eD];go_roundg k3)|(simp only [← lO];go_roundg k3)|((try (have e_:=tY.out;injection e_ with gO o5 gP;subst gO gP));(try (have e_:=tZ.out;injection e_ with gO o5 gP;subst gO gP));go_roundg k3)
          case measure=>have:=aI.z;have:=aqL.z;have:=dR.z;omega
          case rel=>exact ⟨(Xy),(wrap64 (arV+1)),rs,(by first|exact H'|(rw [lN];exact H')|(rw [gl];exact H')|(rw [eD];exact H')|(rw [lO];exact H')),⟨by have:=aI.z;have:=aqL.z;have:=dR.z;omega⟩,⟨by (try simp only [cu]);(try simp only [fA]);(with_reducible repeat (first|apply Kd.iU|apply Kd.iV|apply Kd.gf));exact Qk.out⟩,⟨by (try simp only [cu]);(try simp only [fA]);(with_reducible repeat (first|refine arL ?_ _|refine cJ ?_|refine iW ?_ _));refine s7 ?_ (by have h_:=Kd.aro Dg.z aa.z (by decide);intro e_;exact h_ (by rw [e_];rfl)) _;exact bk⟩,⟨by (try simp only [cu]);(try simp only [fA]);(with_reducible repeat (first|refine arL ?_ _|refine cJ ?_|refine iW ?_ _));refine s7 ?_ (by have h_:=Kd.aro Dg.z eg.z (by decide);intro e_;exact h_ (by rw [e_];rfl)) _;exact bk⟩,⟨aL HB.z⟩⟩
         rw [if_pos c81] at H
         exact absurd H (by simp)
      simp only [Option.some.injEq,Prod.mk.injEq] at H
      obtain ⟨rfl,rfl⟩:=H
      go_wp2_with (first|(refine aqI (N:=15) rfl ?_;refine fu 15 #[.int .i64 0] 3 ?_;intro qj hg Xh bq hb;replace aqD:=iG aqD hb;have eg:=k0 (bq);have J4:=gW hg (aqG bl);have YW:=J4;replace HB:=bW hb;have KO:=nL hg aa;have BD:=nG KO;replace aa:=kB aa hb;clear hb bq hg;obtain ⟨_,_⟩:=nE BD;obtain ⟨_,_⟩:=qg eg)|((with_reducible refine qi (t:=3) (p:=15) rfl ?_);refine qq (t:=3) (p:=15) (v:=?ap4) (w1:=(Xh.setCell ⟨qj,0,none⟩ (.int .i64 aqC))) ?hg ?ho ?hn ?hr ?_;(case ho=>rfl);(case hg=>rfl);(case hn=>rfl);(case hr=>first|(go_simp;done)|(go_simp;rfl));intro Jh hw;have fX:ai (Kd.S (Kd.slice 2 (Kd.int .i64)) 29 Jh w.heap.size (fun _=>True) u8 cv):=⟨(by rw [hw];exact (aS (Kd.b6 (gS 0 (.int .i64 aqC) (tS aqD eg)) (fun _ hk=>trivial))))⟩;have fY:ai (Jh.heap[aA]?=some (sO ag az af ay 26)):=⟨(by rw [hw];exact kZ)⟩;have iJ:ai (Jh.heap[qj]?=some (.cells #[.int .i64 aqC] 3 (0,0))):=⟨(by rw [hw];exact kZ)⟩;have iK:ai (Below w.heap.size w Jh):=⟨(by rw [hw];exact bl)⟩;clear hw;clear aqD;clear aa;clear eg;clear HB;have aqD:=fX;have aa:=fY;have eg:=iJ;have HB:=iK;clear fX fY iJ iK;obtain ⟨_,_⟩:=qg eg;obtain ⟨Gr,D5,rfl⟩:=Kd.dL aqD.z;have Oa:(aqC:Int)≤((cv.length:Int):Int):=oD;obtain ⟨i053,Ux,_,Vw,_⟩:=info_parts o_;have M8:cv.length≤D5:=(Kd.a_ aqD.z).2.1;have Tx:Kd.C (Kd.slice 2 (Kd.int .i64)) _ Gr cv.length cv:=(Kd.a_ aqD.z).2.2;have ah8:(0:Int)≤(aqC:Int):=oD;have afD:=Ht (P:=Try.prog) 24 29 .i64 Try.underlying24 Ux 1 Vw Gr cv.length D5 aqC ah8 Oa;have E7:=Kd.C7 (m:=(aqC:Int).toNat) (c:=D5) Tx (by omega) M8;obtain ⟨Pd,hA53⟩:∃ A1,A1=(if D5=(aqC:Int).toNat then Gr else (Gr:Option Addr).map (·.add ((aqC:Int).toNat * 1))):=⟨_,rfl⟩;obtain ⟨c53,MF⟩:∃ c1,c1=D5 - (aqC:Int).toNat:=⟨_,rfl⟩;have Ij:mz.length=cv.length - (aqC:Int).toNat:=(by rw [uk.z,List.length_drop]<;>omega);rw [show (cv).drop (aqC:Int).toNat=mz from uk.z.symm] at E7;replace E7:Kd.C (Kd.slice 2 (Kd.int .i64)) _ Pd mz.length mz:=(by rw [hA53];exact E7);rw [← Ij,← hA53,← MF] at afD;have rz:=k0 E7;have J':=k0 (show mz.length≤c53 from by rw [Ij,MF];exact Nat.sub_le_sub_right M8 _);clear E7 Tx M8 Ux Vw MF;have al0:=k0 Ij;have alT:=k0 hA53;clear Ij hA53;have alV:=k0 (show (aqC:Int).toNat≤cv.length from by omega);replace Oa:=eT Oa)|(refine aqz (f:=106) rfl ?_;refine gC (some 87) Try.func106 #[.slice Pd mz.length c53,.func (.func 107) #[] #[.pointer (some ⟨qj,0,none⟩)]] ?_;(with_reducible refine (xz.calls k2 _ _ mz aqC t127 _ ?aq ?au ?cr Bg.z).mono ?_);(case aq=>exact aC (by repeat (first|(with_reducible exact rz.z)|(with_reducible refine Kd.fP ?_ _)|(with_reducible refine Kd.fQ ?_ _)|(with_reducible refine Kd.fk ?_)|exact rz.z)));(case au=>exact J'.z);(case cr=>exact by exact bk);rintro e w55 ⟨rfl,hb⟩;refine ⟨_,rfl,?_⟩;replace aqD:=iG aqD hb;replace aa:=kB aa hb;replace eg:=kB eg hb;replace rz:=k0 (Kd.aqN (by repeat (first|(with_reducible exact rz.z)|(with_reducible refine Kd.fP ?_ _)|(with_reducible refine Kd.fQ ?_ _)|(with_reducible refine Kd.fk ?_)|exact rz.z)) hb);replace HB:=bW hb))
      go_ret2
      exact ⟨_,eR,by first|exact Kd.ase _ _ _ _ _|exact Kd.sX _ _ _ _ _|exact Kd.s6 _ _ _ _ _|exact Kd.sZ _ _ _ _ _|exact Kd.p6 _ _ _ _ _,bl⟩
   rw [if_pos c12] at H
   have arN:=decide_eq_true c12
   (try simp only [cu] at arN)
   clear c12
   replace H:=iS H;obtain ⟨c13,H⟩:=H
   have arT:=decide_eq_true c13
   clear c13
   replace H:=iS H;obtain ⟨c14,H⟩:=H
   have mH:=decide_eq_true c14
   (try simp only [cu] at mH)
   clear c14
   obtain ⟨jg,gl⟩:∃ j_:Int,(wrap64 (2 * (wrap64 (2 * (af.length:Int)))))=j_:=⟨_,rfl⟩
   replace H:(if 0≤(jg) then (if (jg:Int).toNat≤35184372088832 then (aX.l1 k1 a1 a2 bu (wrap64 (2 * (af.length:Int))) cZ (List.replicate (jg:Int).toNat 0) dV (t105.length:Int) cZ ((ah dV cZ).length:Int) 0) else (none)) else (none))=some (r1,r2):=by first|(rw [gl] at H;exact H)|(simp only [gl] at H ⊢;exact H)
   have UT:(IntKind.i64.wrap (2 * (wrap64 (2 * (af.length:Int)))))=jg:=(bJ _).trans gl
   replace H:=iS H;obtain ⟨c16,H⟩:=H
   have asK:=eq_true c16
   have acF:=decide_eq_true c16
   clear c16
   replace H:=iS H;obtain ⟨c17,H⟩:=H
   have asL:=eq_true c17
   have ams:=decide_eq_true c17
   clear c17
   obtain ⟨qx,rY⟩:=nY (List.replicate (jg:Int).toNat 0:List Int)
   replace H:(aX.l1 k1 a1 a2 bu (wrap64 (2 * (af.length:Int))) cZ qx dV (t105.length:Int) cZ ((ah dV cZ).length:Int) 0)=some (r1,r2):=rH rY.z H
   have H':=k0 H
   clear H
   obtain ⟨arJ,j9⟩:=iN cZ (dV.length:Int)
   obtain ⟨kn,O9,Lt,e108,oq,EP,EI⟩:=cD (Kd.a_ gB.z).2.2 cZ arJ j9
   cases e108
   obtain ⟨Se,MH,Mu,yd⟩:=Kd.aq9 gB.z [] cZ arJ (by first|exact j9|exact oD|(have e_:=(Kd.a_ gB.z).1;omega))
   obtain ⟨W5,rfl,si⟩:=Mu
   have uT:=yd 0 _ rfl
   rw [Nat.add_zero,show ((Kd.slice 2 (Kd.int .i64))).sz=1 from rfl,Nat.mul_one] at uT
   replace uT:=Option.some.inj (uT.symm.trans oq)
   rw [uT] at si
   have zD:=k0 (show Kd.R (Kd.int .i64) 2 _ _ _ _ (ah dV cZ) from si)
   clear uT si
   have xL:=k0 oq
   clear yd MH
   have BA:=k0 EI
   have Zf:=k0 EP
   clear EI EP
   replace arJ:=eT arJ
   replace j9:=eT j9
   go_wp2_with (first|(refine aqI (N:=41) rfl ?_;refine Kd.BI (Kd.int .i64) _ 2 rfl (N:=41) rfl 29 _ _ rfl jg rfl rfl Try.underlying29 (.int .i64 0) 8 lS rfl (by decide) (by omega) 0 (ok:=fun _=>True) (bw:=fun _=>True) rfl (fun _ hk=>hk) trivial oD (Nat.le_trans (Nat.mul_le_mul_right _ (oD:jg.toNat≤35184372088832)) (by omega)) (Below.refl _ _) (Nat.le_refl _) ?_;intro q4 tO rI hb bH bI;clear bH bI;(first|rw [← rY.z] at rI|(simp only [Int.reduceToNat] at rI;rw [← rY.z] at rI));replace aqD:=iw aqD (Kd.cm rI) hb;replace gB:=iw gB (Kd.cm rI) hb;have ua:=k0 (Kd.cA (Kd.kS rI (Kd.eZ (aR zD.z))) (aqG bl));replace zD:=l_ zD (Kd.cm rI) hb;replace aa:=kB aa hb;replace BA:=k0 (Kd.aqN (by repeat (first|(with_reducible exact BA.z)|(with_reducible refine Kd.fP ?_ _)|(with_reducible refine Kd.fQ ?_ _)|(with_reducible refine Kd.fk ?_)|exact BA.z)) hb);replace xL:=k0 (yP hb xL.z);replace HB:=bW hb;clear hb rI))
   generalize Us:(.slice O9 (ah dV cZ).length Lt:Value)=ajR
   have tY:=k0 Us
   clear Us
   go_loopg [44] k1 (fun kq OM w'=>∃ (fj:List Int) (pK:Int),OM=.int .i64 pK∧ai (aX.l1 kq a1 a2 bu (wrap64 (2 * (af.length:Int))) cZ fj dV (t105.length:Int) cZ ((ah dV cZ).length:Int) pK=some (r1,r2))∧ai (kq≤k1)∧ai (hO w' (.slice (some kn) dV.length dg) cZ ajR)∧ai (Kd.S (Kd.slice 2 (Kd.int .i64)) 29 w' w.heap.size (fun k_=>some k_ ≠ (q4:Value).ownBlock∧some k_ ≠ ((.slice (some kn) dV.length dg):Value).ownBlock) u8 bu)∧ai (Kd.R (Kd.int .i64) 2 w' w.heap.size (fun _=>True) q4 fj)∧ai (Kd.S (Kd.slice 2 (Kd.int .i64)) 29 w' w.heap.size (fun k_=>some k_ ≠ (u8:Value).ownBlock∧some k_ ≠ (q4:Value).ownBlock) (.slice (some kn) dV.length dg) dV)∧ai (w'.heap[aA]?=some (sO ag az af ay 26))∧ai (Below w.heap.size w w'))
   case atStart=>exact ⟨(qx),(0),rs,H',⟨Nat.le_refl _⟩,⟨by (with_reducible repeat (first|apply hO.alloc|apply hO.drewN|apply hO.drew));first|exact ⟨_,_,_,rfl,(by first|exact of_eq_true arJ|exact th nV.out|omega),(by first|exact of_eq_true j9|exact mM nV.out|(have h_:=of_eq_true j9;omega)|(have h_:=mM nV.out;omega)),xL.z⟩|(rw [← tY.out];exact ⟨_,_,_,rfl,(by first|exact of_eq_true arJ|exact th nV.out|omega),(by first|exact of_eq_true j9|exact mM nV.out|(have h_:=of_eq_true j9;omega)|(have h_:=mM nV.out;omega)),xL.z⟩)⟩,⟨by (try simp only [cu]);(with_reducible repeat (first|apply Kd.iU|apply Kd.iV|apply Kd.gf));exact Kd.b6 aqD.z (fun _ hk=>⟨hk.2,hk.1⟩)⟩,⟨by (try simp only [cu]);(with_reducible repeat (first|apply Kd.qE|apply Kd.qF|apply Kd.fG));exact Kd.aqM ua.z (fun _ hk=>trivial)⟩,⟨by (try simp only [cu]);(with_reducible repeat (first|apply Kd.iU|apply Kd.iV|apply Kd.gf));exact gB.z⟩,⟨by (try simp only [cu]);exact bk⟩,⟨bl⟩⟩
   case round =>
    clear H'
    obtain ⟨fj,pK,rfl,HA,aqL,nV,aqD,jb,gB,aa,HB⟩:=hrel
    cases gk with
    | zero=>exact absurd HA.z (by simp [aX.l1])
    | succ k2 =>
     have H:=HA.z
     clear HA
     simp only [aX.l1] at H
     by_cases c20:pK < ((ah dV cZ).length:Int)
     case neg =>
      rw [if_neg c20] at H
      have vP:=decide_eq_false c20
      (try simp only [cu] at vP)
      clear c20
      replace H:=iS H;obtain ⟨c28,H⟩:=H
      have G9:=decide_eq_true c28
      clear c28
      replace H:=iS H;obtain ⟨c29,H⟩:=H
      have G_:=decide_eq_true c29
      (try simp only [cu] at G_)
      clear c29
      by_cases c30:a1=0
      case neg =>
       rw [if_neg c30] at H
       have RZ:=beq_eq_false_iff_ne.mpr c30
       have acV:=bne_iff_ne.mpr c30
       obtain ⟨asg,xN⟩:=nY (fj.set (cZ:Int).toNat (Int.tmod (wrap64 ((rd fj cZ)+1)) a1):List Int)
       replace H:(if 0≤(wrap64 ((wrap64 (2 * (af.length:Int)))+cZ)) then (if (wrap64 ((wrap64 (2 * (af.length:Int)))+cZ)) < (fj.length:Int) then (if bu.length < 5864062014805 then (aX.l0 k2 a1 a2 (bu ++ [(asg.set ((wrap64 ((wrap64 (2 * (af.length:Int)))+cZ)):Int).toNat 1)]) (wrap64 (2 * (af.length:Int))) dV (t105.length:Int) (wrap64 (cZ+1))) else (none)) else (none)) else (none))=some (r1,r2):=rH xN.z H
       obtain ⟨arF,eD⟩:∃ j_:Int,(wrap64 ((wrap64 (2 * (af.length:Int)))+cZ))=j_:=⟨_,rfl⟩
       replace H:(if 0≤(arF) then (if (arF) < (fj.length:Int) then (if bu.length < 5864062014805 then (aX.l0 k2 a1 a2 (bu ++ [(asg.set ((arF):Int).toNat 1)]) (wrap64 (2 * (af.length:Int))) dV (t105.length:Int) (wrap64 (cZ+1))) else (none)) else (none)) else (none))=some (r1,r2):=by first|(rw [eD] at H;exact H)|(simp only [eD] at H ⊢;exact H)
       have afV:(IntKind.i64.wrap ((wrap64 (2 * (af.length:Int)))+cZ))=arF:=(bJ _).trans eD
       replace H:=iS H;obtain ⟨c33,H⟩:=H
       have aty:=decide_eq_true c33
       clear c33
       replace H:=iS H;obtain ⟨c34,H⟩:=H
       have LB:=decide_eq_true c34
       (try simp only [cu] at LB)
       clear c34
       obtain ⟨rj,uj⟩:=nY (asg.set ((arF):Int).toNat 1:List Int)
       replace H:(if bu.length < 5864062014805 then (aX.l0 k2 a1 a2 (bu ++ [rj]) (wrap64 (2 * (af.length:Int))) dV (t105.length:Int) (wrap64 (cZ+1))) else (none))=some (r1,r2):=rH uj.z H
       replace H:=iS H;obtain ⟨c36,H⟩:=H
       have Du:=k0 c36
       clear c36
       obtain ⟨ash,wJ⟩:=nY (bu ++ [rj]:List (List Int))
       replace H:(aX.l0 k2 a1 a2 ash (wrap64 (2 * (af.length:Int))) dV (t105.length:Int) (wrap64 (cZ+1)))=some (r1,r2):=rH wJ.z H
       have H':=k0 H
       clear H
       have ago:decide (0≤cZ)=true:=decide_eq_true (th nV.out)
       have agq:decide (cZ < (dV.length:Int))=true:=decide_eq_true (by have h_:=mM nV.out;have e_:=(Kd.a_ gB.z).1;omega)
       obtain ⟨iZ,iA⟩:=iN cZ (dV.length:Int)
       obtain ⟨ur,JD,BX,e112,tv,uN,uH⟩:=cD (Kd.a_ gB.z).2.2 cZ iZ iA
       obtain rfl:kn=ur:=(by injection e112)
       obtain ⟨LM,Ae,Ab,uD⟩:=Kd.aq9 gB.z [] cZ iZ (by first|exact iA|exact oD|(have e_:=(Kd.a_ gB.z).1;omega))
       obtain ⟨OP,rfl,qM⟩:=Ab
       have arD:=uD 0 _ rfl
       rw [Nat.add_zero,show ((Kd.slice 2 (Kd.int .i64))).sz=1 from rfl,Nat.mul_one] at arD
       replace arD:=Option.some.inj (arD.symm.trans tv)
       rw [arD] at qM
       have nX:=k0 (show Kd.R (Kd.int .i64) 2 _ _ _ _ (ah dV cZ) from qM)
       clear arD qM
       have arS:=k0 tv
       clear uD Ae
       have uf:=k0 uH
       have J8:=k0 uN
       clear uH uN
       replace iZ:=eT iZ
       replace iA:=eT iA
       obtain rfl:=atk nV.out arS.z
       obtain ⟨Pn,gN,rfl⟩:=Kd.cy jb.z
       obtain ⟨AB,AM⟩:=iN cZ (fj.length:Int)
       obtain ⟨abr,e116,Ic⟩:=Kd.bM (Kd.aqP jb.z).2.2 cZ AB AM
       cases e116
       replace AB:=eT AB
       replace AM:=eT AM
       have AI:0≤(cZ:Int):=oD
       have AV:(cZ:Int) < ((fj.length:Int):Int):=oD
       obtain ⟨fy,vR,Eh,Em,Mk,ady,Dc⟩:=Kd.qG jb.z (by omega)
       (first|cases Eh|(injection Eh with bC eo ek;(first|subst bC|(injection bC with bC;subst bC));subst ek;clear eo))
       have C_:=k0 Em
       have YY:=k0 Dc
       clear Em Mk Dc
       (first|simp only [add_plain] at Ic|skip)
       obtain ⟨age,afL⟩:=Kd.kR 0 jb.z (cZ:Int) AI AV
       replace AI:=eT AI
       replace AV:=eT AV
       have zF:=Kd.ar0 jb.z (cZ:Int) (Int.tmod (wrap64 ((rd fj cZ)+1)) a1)
       go_wp2_with (first|((with_reducible refine qi (t:=2) (p:=68) rfl ?_);refine qq (t:=2) (p:=68) (v:=?ajP) (w1:=(wr.setCell ⟨fy,(cZ:Int).toNat,none⟩ (.int .i64 (Int.tmod (wrap64 ((rd fj cZ)+1)) a1)))) ?hg ?ho ?hn ?hr ?_;(case ho=>rfl);(case hg=>rfl);(case hn=>rfl);(case hr=>first|(go_simp;done)|(go_simp;rfl));intro qt hw;have hg:wr.grownBy qt (some fy):=(by rw [hw];exact zF.2);have gp:Kd.R (Kd.int .i64) 2 qt w.heap.size (fun _=>True) (.slice (some ⟨fy,0,none⟩) fj.length gN) asg:=(by rw [hw,xN.z];exact zF.1);clear zF;replace aqD:=k0 (Kd.mF (v:=(.slice (some ⟨fy,0,none⟩) fj.length gN)) (v1:=(.slice (some ⟨fy,0,none⟩) fj.length gN)) (ok:=(fun k_=>some k_ ≠ (.slice (some kn) dV.length dg:Value).ownBlock)) (aS (Kd.b6 aqD.z (fun _ hk=>⟨hk.2,hk.1⟩))) hg (.inl rfl));replace aa:=k0 (aq2 (aB aa.z) hg (Kd.aro jb.z aa.z (by decide)));replace nX:=k0 (Kd.arZ (v:=(.slice (some ⟨fy,0,none⟩) fj.length gN)) (v1:=(.slice (some ⟨fy,0,none⟩) fj.length gN)) (ok:=(fun k_=>some k_ ≠ (u8:Value).ownBlock∧some k_ ≠ (.slice (some kn) dV.length dg:Value).ownBlock)) (aR (Kd.aqM nX.z (fun _ hk=>⟨⟨hk.1.1,hk.2⟩,hk.1.2⟩))) hg (.inl rfl));replace arS:=k0 (r8 hg arS.z (Hh (v:=(.slice (some ⟨fy,0,none⟩) fj.length gN)) (Kd.fH gB.z) (Kd.BM jb.z) (by decide)));replace jb:=k0 (gp);replace gB:=k0 (Kd.mF (v:=(.slice (some ⟨fy,0,none⟩) fj.length gN)) (v1:=(.slice (some ⟨fy,0,none⟩) fj.length gN)) (ok:=(fun k_=>some k_ ≠ (u8:Value).ownBlock)) (aS gB.z) hg (.inl rfl));replace HB:=k0 ((by rw [hw];exact lZ (HB.z) C_.out:Below w.heap.size w qt));clear hg hw gp;have AJ:0≤((arF):Int):=oD;have AW:((arF):Int) < ((fj.length:Int):Int):=oD;obtain ⟨agf,afM⟩:=Kd.kR 0 jb.z ((arF):Int) AJ AW;replace AJ:=eT AJ;replace AW:=eT AW;obtain ⟨agl,agn⟩:=Kd.kR 0 jb.z ((arF):Int) oD oD;have zG:=Kd.ar0 jb.z ((arF):Int) 1)|((with_reducible refine qi (t:=2) (p:=73) rfl ?_);refine qq (t:=2) (p:=73) (v:=?ajQ) (w1:=(qt.setCell ⟨fy,((arF):Int).toNat,none⟩ (.int .i64 1))) ?hg ?ho ?hn ?hr ?_;(case ho=>rfl);(case hg=>rfl);(case hn=>rfl);(case hr=>first|(go_simp;done)|(go_simp;rfl));intro xb hw;have hg:qt.grownBy xb (some fy):=(by rw [hw];exact zG.2);have gp:Kd.R (Kd.int .i64) 2 xb w.heap.size (fun _=>True) (.slice (some ⟨fy,0,none⟩) fj.length gN) rj:=(by rw [hw,uj.z];exact zG.1);clear zG;replace aqD:=k0 (Kd.mF (v:=(.slice (some ⟨fy,0,none⟩) fj.length gN)) (v1:=(.slice (some ⟨fy,0,none⟩) fj.length gN)) (ok:=(fun k_=>some k_ ≠ (.slice (some kn) dV.length dg:Value).ownBlock)) (aS aqD.z) hg (.inl rfl));replace aa:=k0 (aq2 (aB aa.z) hg (Kd.aro jb.z aa.z (by decide)));replace nX:=k0 (Kd.arZ (v:=(.slice (some ⟨fy,0,none⟩) fj.length gN)) (v1:=(.slice (some ⟨fy,0,none⟩) fj.length gN)) (ok:=(fun k_=>some k_ ≠ (u8:Value).ownBlock∧some k_ ≠ (.slice (some kn) dV.length dg:Value).ownBlock)) (aR nX.z) hg (.inl rfl));replace arS:=k0 (r8 hg arS.z (Hh (v:=(.slice (some ⟨fy,0,none⟩) fj.length gN)) (Kd.fH gB.z) (Kd.BM jb.z) (by decide)));replace jb:=k0 (gp);replace gB:=k0 (Kd.mF (v:=(.slice (some ⟨fy,0,none⟩) fj.length gN)) (v1:=(.slice (some ⟨fy,0,none⟩) fj.length gN)) (ok:=(fun k_=>some k_ ≠ (u8:Value).ownBlock)) (aS gB.z) hg (.inl rfl));replace HB:=k0 ((by rw [hw];exact lZ (HB.z) C_.out:Below w.heap.size w xb));clear hg hw gp)|((with_reducible refine ars (b:=.append) (xs:=#[.tmp 74,.tmp 76]) rfl ?_);at_builtin;refine Kd.asc (Kd.slice 2 (Kd.int .i64)) (w0:=w) w.heap.size rfl (.tmp 74) (.tmp 76) 24 29 (.slice none 0 0) 24 rfl Try.underlying24 o_ rfl (by decide) (by omega) u8 bu rj [.slice (some ⟨fy,0,none⟩) fj.length gN] (fun k_=>some k_ ≠ (.slice (some kn) dV.length dg:Value).ownBlock) (fun k_=>some k_=(.slice (some ⟨fy,0,none⟩) fj.length gN:Value).ownBlock) rfl rfl ?aP (fun k_ aqJ=>((Kd.aqM (ok':=fun k_=>((fun k_=>some k_ ≠ (.slice (some kn) dV.length dg:Value).ownBlock)) k_∧some k_ ≠ (u8:Value).ownBlock) (Kd.aq' (Kd.aq' (jb.z) (Kd.fH gB.z) (by decide)) (Kd.fH aqD.z) (by decide)) (fun k_ hk=>⟨hk.1.2,hk.2⟩))).1 k_ aqJ.symm) ?aF ?aO ?aB ?aS ?aL ?_;(case aP=>exact Kd.lD (Kd.aqM (Kd.oV rfl (Kd.aqM (ok':=fun k_=>((fun k_=>some k_ ≠ (.slice (some kn) dV.length dg:Value).ownBlock)) k_∧some k_ ≠ (u8:Value).ownBlock) (Kd.aq' (Kd.aq' (jb.z) (Kd.fH gB.z) (by decide)) (Kd.fH aqD.z) (by decide)) (fun k_ hk=>⟨hk.1.2,hk.2⟩))) (fun _ h_=>h_)));(case aB=>exact bl);(case aF=>exact (fun k_ hk=>Kd.fresh' (Kd.p9 (aS gB.z)) k_ hk));(case aO=>exact (aS (Kd.b6 aqD.z (fun k_ hk=>⟨hk.1,fun e_=>hk.2 e_⟩))));(case aS=>exact (aqG bl));(case aL=>have:=Du.out;omega);intro OG Xd ho hb hg bg;rw [← wJ.z] at ho;replace gB:=k0 (Kd.mF (ok:=(fun k_=>some k_ ≠ (.slice (some ⟨fy,0,none⟩) fj.length gN:Value).ownBlock)) (aS (Kd.b6 gB.z (fun _ hk=>⟨hk.2,hk.1⟩))) hg bg);replace aa:=k0 (aq2 (aB aa.z) hg (Kd.arl aqD.z aa.z (by decide)));replace nX:=k0 (Kd.arZ (ok:=(fun k_=>some k_ ≠ (.slice (some ⟨fy,0,none⟩) fj.length gN:Value).ownBlock∧some k_ ≠ (.slice (some kn) dV.length dg:Value).ownBlock)) (aR (Kd.aqM nX.z (fun _ hk=>⟨⟨hk.2,hk.1.2⟩,hk.1.1⟩))) hg bg);replace HB:=k0 (hb);have oR:=k0 (ho);clear aqD jb;clear ho hb hg bg))
       (try simp only [← cu])
       first|go_roundg k2|(simp only [← lN];go_roundg k2)|(simp only [← gl];go_roundg k2)|(simp only [← eD];go_roundg k2)|(simp only [← lO];go_roundg k2)|((try (have e_:=tY.out;injection e_ with gO o5 gP;subst gO gP));(try (have e_:=tZ.out;injection e_ with gO o5 gP;subst gO gP));go_roundg k2)
       case measure=>have:=aI.z;have:=aqL.z;omega
       case rel=>exact ⟨(ash),(dV),(wrap64 (cZ+1)),rs,(by first|exact H'|(rw [lN];exact H')|(rw [gl];exact H')|(rw [eD];exact H')|(rw [lO];exact H')),⟨by have:=aI.z;have:=aqL.z;omega⟩,⟨by (try simp only [cu]);(with_reducible repeat (first|apply Kd.iU|apply Kd.iV|apply Kd.gf));exact oR.z⟩,⟨by (try simp only [cu]);(with_reducible repeat (first|apply Kd.iU|apply Kd.iV|apply Kd.gf));exact Kd.b6 gB.z (fun _ hk=>hk.2)⟩,⟨by (try simp only [cu]);exact bk⟩,⟨bl⟩⟩
      rw [if_pos c30] at H
      exact absurd H (by simp)
     rw [if_pos c20] at H
     have vP:=decide_eq_true c20
     (try simp only [cu] at vP)
     clear c20
     replace H:=iS H;obtain ⟨c21,H⟩:=H
     have asZ:=decide_eq_true c21
     clear c21
     replace H:=iS H;obtain ⟨c22,H⟩:=H
     have B2:=decide_eq_true c22
     (try simp only [cu] at B2)
     clear c22
     replace H:=bS H;obtain ⟨t114,rQ,H⟩:=H
     replace H:=iS H;obtain ⟨c24,H⟩:=H
     have wM:=decide_eq_true c24
     (try simp only [cu] at wM)
     clear c24
     obtain ⟨sN,asr⟩:=nY (fj.set (pK:Int).toNat t114:List Int)
     replace H:(aX.l1 k2 a1 a2 bu (wrap64 (2 * (af.length:Int))) cZ sN dV (t105.length:Int) cZ ((ah dV cZ).length:Int) (wrap64 (pK+1)))=some (r1,r2):=rH asr.z H
     have H':=k0 H
     clear H
     have ago:decide (0≤cZ)=true:=decide_eq_true (th nV.out)
     have agq:decide (cZ < (dV.length:Int))=true:=decide_eq_true (by have h_:=mM nV.out;have e_:=(Kd.a_ gB.z).1;omega)
     obtain ⟨iZ,iA⟩:=iN cZ (dV.length:Int)
     obtain ⟨ur,JD,BX,e112,tv,uN,uH⟩:=cD (Kd.a_ gB.z).2.2 cZ iZ iA
     obtain rfl:kn=ur:=(by injection e112)
     obtain ⟨LM,Ae,Ab,uD⟩:=Kd.aq9 gB.z [] cZ iZ (by first|exact iA|exact oD|(have e_:=(Kd.a_ gB.z).1;omega))
     obtain ⟨OP,rfl,qM⟩:=Ab
     have arD:=uD 0 _ rfl
     rw [Nat.add_zero,show ((Kd.slice 2 (Kd.int .i64))).sz=1 from rfl,Nat.mul_one] at arD
     replace arD:=Option.some.inj (arD.symm.trans tv)
     rw [arD] at qM
     have nX:=k0 (show Kd.R (Kd.int .i64) 2 _ _ _ _ (ah dV cZ) from qM)
     clear arD qM
     have arS:=k0 tv
     clear uD Ae
     have uf:=k0 uH
     have J8:=k0 uN
     clear uH uN
     replace iZ:=eT iZ
     replace iA:=eT iA
     obtain rfl:=atk nV.out arS.z
     obtain ⟨tF,tH⟩:=iN pK ((ah dV cZ).length:Int)
     obtain ⟨BN,e113,Cw⟩:=Kd.bM (by repeat (first|(with_reducible exact uf.z)|(with_reducible refine Kd.fP ?_ _)|(with_reducible refine Kd.fQ ?_ _)|(with_reducible refine Kd.fk ?_)|exact uf.z)) pK tF tH
     cases e113
     replace tF:=eT tF
     replace tH:=eT tH
     go_wp2_with (first|(refine aqz (f:=86) rfl ?_;refine gC (some 56) Try.func86 #[.int .i64 (wrap64 ((wrap64 (-a2)) * (rd (ah dV cZ) pK))),.int .i64 a1] ?_;(with_reducible refine (tX.calls (wrap64 ((wrap64 (-a2)) * (rd (ah dV cZ) pK))) a1 t114 _ rQ.z).mono ?_);rintro e w' ⟨rfl,⟨nd,rfl⟩⟩;refine ⟨_,rfl,?_⟩;(try (rw [Hx wr];generalize iz:World.drewN wr _=wr;have fX:ai (Kd.R (Kd.int .i64) 2 wr w.heap.size (fun k_=>((some k_ ≠ (u8:Value).ownBlock∧some k_ ≠ (q4:Value).ownBlock)∧some k_ ≠ (.slice (some kn) dV.length dg:Value).ownBlock)) (.slice (some BN) (ah dV cZ).length BX) (ah dV cZ)):=⟨by rw [← iz];exact (aR nX.z)⟩;have fY:ai (Kd.R (Kd.int .i64) 2 wr w.heap.size (fun _=>True) q4 fj):=⟨by rw [← iz];exact (aR jb.z)⟩;have iJ:ai (Kd.S (Kd.slice 2 (Kd.int .i64)) 29 wr w.heap.size (fun k_=>(some k_ ≠ (u8:Value).ownBlock∧some k_ ≠ (q4:Value).ownBlock)) (.slice (some kn) dV.length dg) dV):=⟨by rw [← iz];exact (aS gB.z)⟩;have iK:ai (Kd.S (Kd.slice 2 (Kd.int .i64)) 29 wr w.heap.size (fun k_=>(some k_ ≠ (q4:Value).ownBlock∧some k_ ≠ (.slice (some kn) dV.length dg:Value).ownBlock)) u8 bu):=⟨by rw [← iz];exact (aS aqD.z)⟩;have mR:ai (wr.cell? (kn.add (cZ).toNat)=some (.slice (some BN) (ah dV cZ).length BX)):=⟨by rw [← iz];exact arS.z⟩;have ass:ai (wr.heap[aA]?=some (sO ag az af ay 26)):=⟨by rw [← iz];exact bk⟩;have FL:ai (Below w.heap.size w wr):=⟨by rw [← iz];exact bl⟩;have FM:ai (Kd.C (Kd.int .i64) wr (some BN) (ah dV cZ).length (ah dV cZ)):=⟨by rw [← iz];exact (by repeat (first|(with_reducible exact uf.z)|(with_reducible refine Kd.fP ?_ _)|(with_reducible refine Kd.fQ ?_ _)|(with_reducible refine Kd.fk ?_)|exact uf.z))⟩;clear nX jb gB aqD arS aa HB uf iz;have nX:=fX;have jb:=fY;have gB:=iJ;have aqD:=iK;have arS:=mR;have aa:=ass;have HB:=FL;have uf:=FM;clear fX fY iJ iK mR ass FL FM));have NT:0≤(pK:Int):=oD;have N9:(pK:Int) < ((fj.length:Int):Int):=oD;obtain ⟨vU,qK,SU,Tk,aeH,anh,PW⟩:=Kd.qG jb.z (by omega);(first|cases SU|(injection SU with bC eo ek;(first|subst bC|(injection bC with bC;subst bC));subst ek;clear eo));have YS:=k0 Tk;have ak5:=k0 PW;clear Tk aeH PW;obtain ⟨aoU,an4⟩:=Kd.kR 0 jb.z (pK:Int) NT N9;replace NT:=eT NT;replace N9:=eT N9;obtain ⟨agk,agm⟩:=Kd.kR 0 jb.z (pK:Int) oD oD;have zE:=Kd.ar0 jb.z (pK:Int) t114)|((with_reducible refine qi (t:=2) (p:=57) rfl ?_);refine qq (t:=2) (p:=57) (v:=?ajO) (w1:=(wr.setCell ⟨vU,(pK:Int).toNat,none⟩ (.int .i64 t114))) ?hg ?ho ?hn ?hr ?_;(case ho=>rfl);(case hg=>rfl);(case hn=>rfl);(case hr=>first|(go_simp;done)|(go_simp;rfl));intro rL hw;have hg:wr.grownBy rL (some vU):=(by rw [hw];exact zE.2);have gp:Kd.R (Kd.int .i64) 2 rL w.heap.size (fun _=>True) (.slice (some ⟨vU,0,none⟩) fj.length qK) sN:=(by rw [hw,asr.z];exact zE.1);clear zE;replace aqD:=k0 (Kd.mF (v:=(.slice (some ⟨vU,0,none⟩) fj.length qK)) (v1:=(.slice (some ⟨vU,0,none⟩) fj.length qK)) (ok:=(fun k_=>some k_ ≠ (.slice (some kn) dV.length dg:Value).ownBlock)) (aS (Kd.b6 aqD.z (fun _ hk=>⟨hk.2,hk.1⟩))) hg (.inl rfl));replace aa:=k0 (aq2 (aB aa.z) hg (Kd.aro jb.z aa.z (by decide)));replace nX:=k0 (Kd.arZ (v:=(.slice (some ⟨vU,0,none⟩) fj.length qK)) (v1:=(.slice (some ⟨vU,0,none⟩) fj.length qK)) (ok:=(fun k_=>some k_ ≠ (u8:Value).ownBlock∧some k_ ≠ (.slice (some kn) dV.length dg:Value).ownBlock)) (aR (Kd.aqM nX.z (fun _ hk=>⟨⟨hk.1.1,hk.2⟩,hk.1.2⟩))) hg (.inl rfl));replace arS:=k0 (r8 hg arS.z (Hh (v:=(.slice (some ⟨vU,0,none⟩) fj.length qK)) (Kd.fH gB.z) (Kd.BM jb.z) (by decide)));replace jb:=k0 (gp);replace gB:=k0 (Kd.mF (v:=(.slice (some ⟨vU,0,none⟩) fj.length qK)) (v1:=(.slice (some ⟨vU,0,none⟩) fj.length qK)) (ok:=(fun k_=>some k_ ≠ (u8:Value).ownBlock)) (aS gB.z) hg (.inl rfl));replace HB:=k0 ((by rw [hw];exact lZ (HB.z) YS.out:Below w.heap.size w rL));clear hg hw gp))
     first|go_roundg k2|(simp only [← lN];go_roundg k2)|(simp only [← gl];go_roundg k2)|(simp only [← eD];go_roundg k2)|(simp only [← lO];go_roundg k2)|((try (have e_:=tY.out;injection e_ with gO o5 gP;subst gO gP));(try (have e_:=tZ.out;injection e_ with gO o5 gP;subst gO gP));go_roundg k2)
     case measure=>have:=aI.z;have:=aqL.z;omega
     case rel=>exact ⟨(sN),(wrap64 (pK+1)),rs,(by first|exact H'|(rw [lN];exact H')|(rw [gl];exact H')|(rw [eD];exact H')|(rw [lO];exact H')),⟨by have:=aI.z;have:=aqL.z;omega⟩,⟨by (with_reducible repeat (first|apply hO.alloc|apply hO.drewN|apply hO.drew));first|exact ⟨_,_,_,rfl,(by first|exact of_eq_true iZ|exact th nV.out|omega),(by first|exact of_eq_true iA|exact mM nV.out|(have h_:=of_eq_true iA;omega)|(have h_:=mM nV.out;omega)),arS.z⟩|(rw [← tY.out];exact ⟨_,_,_,rfl,(by first|exact of_eq_true iZ|exact th nV.out|omega),(by first|exact of_eq_true iA|exact mM nV.out|(have h_:=of_eq_true iA;omega)|(have h_:=mM nV.out;omega)),arS.z⟩)⟩,⟨by (try simp only [cu]);(with_reducible repeat (first|apply Kd.iU|apply Kd.iV|apply Kd.gf));exact Kd.b6 aqD.z (fun _ hk=>⟨hk.2,hk.1⟩)⟩,⟨by (try simp only [cu]);(with_reducible repeat (first|apply Kd.qE|apply Kd.qF|apply Kd.fG));exact jb.z⟩,⟨by (try simp only [cu]);(with_reducible repeat (first|apply Kd.iU|apply Kd.iV|apply Kd.gf));exact gB.z⟩,⟨by (try simp only [cu]);exact bk⟩,⟨bl⟩⟩
end Go.Proofs.Ytapnggjaeehpdaa.A
/- Set with little white space, by a program. -/
