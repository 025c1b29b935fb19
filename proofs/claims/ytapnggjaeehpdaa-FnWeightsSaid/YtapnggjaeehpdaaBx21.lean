/- Go's calls come to what the Lean functions say. Condition of each: that the Lean function answers. -/
import Derived.Test.YtapnggjaeehpdaaBx0
import Derived.Test.YtapnggjaeehpdaaBx1
import Derived.Test.YtapnggjaeehpdaaBx4
import Derived.Test.YtapnggjaeehpdaaBx15
import Derived.Test.YtapnggjaeehpdaaBx20
namespace Go.Proofs.Ytapnggjaeehpdaa.B
open Go.RowKit Go.Proofs.bz.dI Go.Proofs.bz.iY Go.Proofs.bz.jn
attribute [local go_sem] max2_int min2_int max_two min_two max_three min_three max_four min_four
set_option linter.unusedVariables false
set_option linter.unusedSimpArgs false
/-! ### F93: function 93 -/
mutual
def cO.j0 : Nat → List Int → Int → Bool → List Int → Int → Int → Int → List (List Int) → Option (List Int × Int × Int)
 | 0,_,_,_,_,_,_,_,_=>none
 | k+1,x5,x6,xw,fF,jx,jy,cn,cF=>if xw=true then (some (x5,jx,jy)) else ((cw.f fF jx jy 6).bind fun gi=>(cO.l0 k x5 x6 (wrap64 (1+gi.1)) fF gi.2.1 gi.2.2 cn cF))
def cO.l0 : Nat → List Int → Int → Int → List Int → Int → Int → Int → List (List Int) → Option (List Int × Int × Int)
 | 0,_,_,_,_,_,_,_,_=>none
 | k+1,x5,x6,x7,fF,jx,jy,cn,cF=>if x7 > 0 then ((cw.f fF jx jy x6).bind fun kV=>(if (x5.length:Int) > 0 then (if 0≤(wrap64 ((x5.length:Int) - 1)) then (if (wrap64 ((x5.length:Int) - 1)) < (x5.length:Int) then ((atT.f cn cF (rd x5 (wrap64 ((x5.length:Int) - 1)))).bind fun NP=>(cO.l1 k x5 x6 x7 kV.1 NP.2 0 fF kV.2.1 kV.2.2 cn cF)) else (none)) else (none)) else (cO.j3 k x5 x6 x7 kV.1 fF kV.2.1 kV.2.2 cn cF))) else ((cw.f fF jx jy 24).bind fun lY=>(if lY.1=0 then (if x5.length < 17592186044416 then (some ((x5 ++ [x6]),lY.2.1,lY.2.2)) else (none)) else (some (x5,lY.2.1,lY.2.2))))
def cO.j3 : Nat → List Int → Int → Int → Int → List Int → Int → Int → Int → List (List Int) → Option (List Int × Int × Int)
 | 0,_,_,_,_,_,_,_,_,_=>none
 | k+1,x5,x6,x7,x8,fF,jx,jy,cn,cF=>if x5.length < 17592186044416 then ((some (x5 ++ [x8]:List Int)).bind fun atH=>((fI.f k cn cF atH).bind fun t126=>(if t126=true then ((cw.f fF jx jy 3).bind fun kD=>(if kD.1 > 0 then ((cw.f fF kD.2.1 kD.2.2 24).bind fun gU=>(if gU.1=0 then (if atH.length < 17592186044416 then (some ((atH ++ [x6]),gU.2.1,gU.2.2)) else (none)) else (some (atH,gU.2.1,gU.2.2)))) else (cO.l0 k atH x6 (wrap64 (x7 - 1)) fF kD.2.1 kD.2.2 cn cF))) else (cO.l0 k atH x6 (wrap64 (x7 - 1)) fF jx jy cn cF)))) else (none)
def cO.l1 : Nat → List Int → Int → Int → Int → Int → Int → List Int → Int → Int → Int → List (List Int) → Option (List Int × Int × Int)
 | 0,_,_,_,_,_,_,_,_,_,_,_=>none
 | k+1,x5,x6,x7,x8,eS,atx,fF,jx,jy,cn,cF=>if atx < x6 then (if x6=0 then (none) else ((atT.f cn cF (Int.tmod (wrap64 (x8+atx)) x6)).bind fun ou=>(if ou.1=eS then (cO.j3 k x5 x6 x7 (Int.tmod (wrap64 (x8+atx)) x6) fF jx jy cn cF) else (cO.l1 k x5 x6 x7 x8 eS (wrap64 (atx+1)) fF jx jy cn cF)))) else (cO.j3 k x5 x6 x7 x8 fF jx jy cn cF)
end
def cO.f (k:Nat) (asZ:List Int) (bB:Int) (ate:Int) (aE:Int) (az:List (List Int)):Option (List Int × Int × Int):=(some (([]:List Int):List Int)).bind fun mz=>(if (wrap64 (2 * (az.length:Int)))=0 then (cO.j0 k mz (wrap64 (2 * (az.length:Int))) true asZ bB ate aE az) else ((dR.f k aE az).bind fun t105=>(cO.j0 k mz (wrap64 (2 * (az.length:Int))) (!t105) asZ bB ate aE az)))
def cO.T9:Bool × List (List Nat × List Nat):=(true,[([],[]),([],[]),([],[]),([2],[2]),([3],[3]),([1,4],[1,4]),([5],[5]),([0,6],[0,6]),([7],[7]),([8],[8]),([8],[8]),([9,7,0,1,2,3,4,5,6,7,8,9],[9]),([10,11,0,1,2,3,4,5,6,7,8,9,10,11],[10])])
def cO.B9:List Nat:=[0,0,0,4,12,30,62,127,255,511,511,1023,4095]
theorem cO.Im:eB .any (opsOf Try.f93 9)=cO.T9:=by kernel_rfl
theorem cO.F7:ie cO.T9.2 cO.B9=true:=by kernel_rfl
def cO.F1:Bool × List (List Nat × List Nat):=(true,[([],[]),([],[]),([],[]),([1,2],[1,2]),([],[]),([3,4],[3,4]),([0,5],[0,5]),([6],[6]),([7],[7]),([7],[7]),([8,6,0,1,2,3,4,5,6,7,8],[8]),([9,10,0,1,2,3,4,5,6,7,8,9,10],[9])])
def cO.L7:List Nat:=[0,0,0,6,0,30,63,127,255,255,511,2047]
theorem cO.Ll:eB .any (opsOf Try.f93 13)=cO.F1:=by kernel_rfl
theorem cO.JI:ie cO.F1.2 cO.L7=true:=by kernel_rfl
set_option maxHeartbeats 8000000 in
set_option maxRecDepth 100000 in
theorem cO.calls (k : Nat) (g : Nat) (asZ : List Int) (bB : Int) (ate : Int) (aE : Int) (atb : Option Addr) (atc : Nat) (az : List (List Int)) (r1 : List Int) (r2 : Int) (r3 : Int) (w0 w : World) (hI : ag w0 w g asZ bB ate) (hB : Below w0.heap.size w0 w) (iB : ∀ W_, bx w W_ g none → Kd.C (Kd.slice 2 (Kd.int .i64)) W_ atb az.length az) (iz : az.length ≤ atc) (h : cO.f k asZ bB ate aE az = some (r1, r2, r3)) :
  Calls Try.prog 93 #[.pointer (some ⟨g,0,none⟩),.agg #[.int .i64 aE,.slice atb az.length atc]] w fun e w'=>∃ ati:Value,e=.returned (ati)∧Kd.R (Kd.int .i64) 2 w' w.heap.size (fun _=>True) ati r1∧ag w0 w' g asZ r2 r3∧Below w0.heap.size w0 w'∧bx w w' g none:=by
 have gV:=Try.underlying26
 have ep:=k0 iB
 have eo:=k0 iz
 clear iB iz
 have ah:=k0 hI
 have HK:=k0 (bx.refl w g none)
 have HL:=k0 hB.size
 clear hI
 have jg:=k0 hB.size
 have HB:=k0 hB
 clear hB
 unfold cO.f at h
 have H:=h
 clear h
 obtain ⟨mz,rq⟩:=nY (([]:List Int):List Int)
 replace H:(if (wrap64 (2 * (az.length:Int)))=0 then (cO.j0 k mz (wrap64 (2 * (az.length:Int))) true asZ bB ate aE az) else ((dR.f k aE az).bind fun t105=>(cO.j0 k mz (wrap64 (2 * (az.length:Int))) (!t105) asZ bB ate aE az)))=some (r1,r2,r3):=rH rq.z H
 have avb:=k0 H
 clear H
 go_enter Try.func93,Try.ntmps93
 try go_wp2_with (first|(refine aX (N:=3) rfl ?_;refine eJ 3 #[.int .i64 aE,.slice atb az.length atc] 26 ?_;intro ay hg w4 aY hb;replace HB:=k0 (cu (aG (ag.ge ah.z) HB.z) hb);have aa:=k0 aY;have bn:=gW hg (b_ (aK HK.z));have cG:=k0 (Nat.le_trans jg.z bn.z);replace HK:=eC HK hb;have vH:=k0 ((by rw [hg];exact Nat.ne_of_lt (ag.lt (show ag w0 _ g asZ bB ate from aA ah.z)):g ≠ ay));have cy:=k0 ((by rw [hg];exact Nat.ne_of_gt (ag.lt (show ag w0 _ g asZ bB ate from aA ah.z)):ay ≠ g));replace ah:=k0 (ag.below (aA ah.z) hb);clear hb aY hg))
 replace aa:=k0 (dg aa.z);replace ah:=k0 (ag.drew ah.z);replace HK:=k0 (wU HK.z);replace HB:=k0 (eZ HB.z)
 refine atG (n:=7) (S:=fun w'=>w'.cell? ⟨ay,0,none⟩=some (.int .i64 aE)∧w'.cell? ⟨ay,1,none⟩=some (.slice atb az.length atc)) (ds:=[]) (ba 7 0) (by kernel_rfl) rfl rfl ⟨dU aa,ej aa⟩ (fun hHeld=>?_)
 generalize w4.drew=w5 at aa ah HK HB hHeld ⊢
 refine jc (i:=1) (N:=some 15) (v:=?_) (a':=?_) (ba 7 2) rfl rfl (by kernel_rfl) (fun _ _ _ h=>h) (Or.inl ⟨by rfl,?_⟩) ?_ ?_
 rotate_left;· intro w';go_simp;with_reducible rfl
 rotate_left;· simp only [Act.put,zI,zZ,zS,bp,bH];rfl
 refine oQ (i:=2) (N:=some 16) (v:=?_) (a':=?_) (ba 7 6) rfl rfl (by kernel_rfl) (fun _ _ _ h=>h) (Or.inl ⟨by rfl,?_⟩) hHeld ?_ ?_
 rotate_left;· rintro w' ⟨s0,s1⟩;go_simp;with_reducible rfl
 rotate_left;· simp only [Act.put,zI,zZ,zS,bp,bH];rfl
 refine jc (i:=3) (N:=some 17) (v:=?_) (a':=?_) (ba 7 14) rfl rfl (by kernel_rfl) (fun _ _ _ h=>h) (Or.inl ⟨by rfl,?_⟩) ?_ ?_
 rotate_left;· intro w';go_simp;with_reducible rfl
 rotate_left;· simp only [Act.put,zI,zZ,zS,bp,bH];rfl
 refine jc (i:=4) (N:=some 18) (v:=?_) (a':=?_) (ba 7 30) rfl rfl (by kernel_rfl) (fun _ _ _ h=>h) (Or.inl ⟨by rfl,?_⟩) ?_ ?_
 rotate_left;· intro w';go_simp;with_reducible rfl
 rotate_left;· simp only [Act.put,zI,zZ,zS,bp,bH];rfl
 refine atw (i:=0) (N:=some 14) (ba 7 31) rfl rfl (by kernel_rfl) (by decide) (fun K hK=>?_)
 refine LU 2 (N:=14) (xs:=([]:List Int)) (inner:=[]) (aJ.none _ _) ?_
 intro zw w6 p9 hb bR atf
 clear bR atf
 (first|rw [← rq.z] at p9|(simp only [Int.reduceToNat] at p9;rw [← rq.z] at p9))
 have fh:=k0 (Kd.cg p9 (b_ (aK HK.z)));replace aa:=kB aa hb;replace HK:=eC HK hb;replace HB:=k0 (cu (aG (ag.ge ah.z) HB.z) hb);replace ah:=k0 (ag.below (aA ah.z) hb)
 clear hb p9
 refine hK.out _ _ ⟨dU aa,ej aa⟩ (fun hHeld=>?_)
 clear hK K
 refine hJ (a':=?_) ?_ ?_
 rotate_left;· show Act.put _ (some 14) _=_;simp only [Act.put,zI,zZ,zS,bp,bH];rfl
 refine jc (i:=5) (N:=some 5) (v:=?_) (a':=?_) (ba 7 63) rfl rfl (by kernel_rfl) (fun _ _ _ h=>h) (Or.inl ⟨by rfl,?_⟩) ?_ ?_
 rotate_left;· intro w';go_simp;with_reducible rfl
 rotate_left;· simp only [Act.put,zI,zZ,zS,bp,bH];rfl
 refine jc (i:=6) (N:=some 6) (v:=?_) (a':=?_) (ba 7 127) rfl rfl (by kernel_rfl) (fun _ _ _ h=>h) (Or.inl ⟨by rfl,?_⟩) ?_ ?_
 rotate_left;· intro w';go_simp;with_reducible rfl
 rotate_left;· simp only [Act.put,zI,zZ,zS,bp,bH];rfl
 refine gY (by kernel_rfl) ?_
 go_upto_region 2 with (fail)
 go_cut [25] (fun Rt wc=>∃ (kq:Nat) (LJ:Bool),Rt=.bool LJ∧af (cO.j0 kq mz (wrap64 (2 * (az.length:Int))) LJ asZ bB ate aE az=some (r1,r2,r3))∧af (kq≤k)∧af (Kd.R (Kd.int .i64) 2 wc w.heap.size (fun _=>True) zw mz)∧af (wc.heap[ay]?=some (sO aE atb az atc 26))∧af (ag w0 wc g asZ bB ate)∧af (bx w wc g none)∧af (Below w0.heap.size w0 wc))
 case first =>
  have H:=avb.z
  clear avb
  replace H:=iE H;obtain ⟨c8,kX,tj,H⟩|⟨kX,tj,H⟩:=H
  case inl =>
   (first|rw [kX]|(simp only [bp,bH];rw [kX])|skip)
   replace H:=bS H;obtain ⟨t105,A9,H⟩:=H
   have H':=k0 H
   clear H
   obtain ⟨_,_⟩:=nE cy
   obtain ⟨_,_,_,_⟩:=as9 aa
   go_wp2_with (first|(go_at_call 68;(with_reducible refine (dR.calls k aE _ _ az t105 _ ?av ?ax A9.z).mono ?_);(case av=>exact Kd.zT ep.z (aK HK.z));(case ax=>exact eo.z);rintro e auL ⟨rfl,hb⟩;replace fh:=eI fh hb;replace aa:=kB aa hb;replace HK:=eC HK hb;replace HB:=k0 (cu (aG (ag.ge ah.z) HB.z) hb);replace ah:=k0 (ag.below (aA ah.z) hb)))
   go_meet
   case rel=>exact ⟨_,(!t105),rs,(by first|exact H'|(rw [rF];exact H')),⟨oL⟩,⟨aR (fh.z)⟩,⟨bk⟩,⟨aA ah.z⟩,⟨aK HK.z⟩,⟨aG (ag.ge ah.z) HB.z⟩⟩
  (first|rw [kX]|(simp only [bp,bH];rw [kX])|skip)
  have H':=k0 H
  clear H
  go_wp2
  go_meet
  case rel=>exact ⟨_,(true),rs,(by first|exact H'|(rw [rF];exact H')),⟨oL⟩,⟨aR (fh.z)⟩,⟨bk⟩,⟨aA ah.z⟩,⟨aK HK.z⟩,⟨aG (ag.ge ah.z) HB.z⟩⟩
 case rest =>
  clear avb
  obtain ⟨kq,LJ,rfl,HA,yG,aq,aa,ah,HK,HB⟩:=hcut
  cases kq with
  | zero=>exact absurd HA.z (by simp [cO.j0])
  | succ Yi =>
   have H:=HA.z
   clear HA
   simp only [cO.j0] at H
   cases LJ
   case false =>
    replace H:=iF H
    replace H:=bS H;obtain ⟨⟨t106,t107,t108⟩,Fo,H⟩:=H
    dsimp only at H
    have H':=k0 H
    clear H
    go_wp2_with (first|(refine aT (f:=49) rfl ?_;refine gC (some 28) Try.func49 #[.pointer (some ⟨g,0,none⟩),.int .i64 6] ?_;(with_reducible refine (cw.calls g asZ bB ate 6 t106 t107 t108 w0 _ ?av ?ax Fo.z).mono ?_);(case av=>exact aA ah.z);(case ax=>exact aG (ag.ge ah.z) HB.z);rintro e sF ⟨rfl,hi,hb,hk⟩;refine ⟨_,rfl,?_⟩;replace aq:=k0 (Kd.aH (Kd.atM (ag.apart (show ag w0 _ g asZ bB ate from aA ah.z) (aR aq.z) (by decide)) hk (fun _ h=>h.2)) (fun _ h=>h.1));replace aa:=kK hk aa cy;replace HK:=atm HK hk;replace HB:=k0 hb;replace ah:=k0 hi))
    go_loopg [5,7] Yi (fun kq v5 v7 w'=>∃ (bg:List Int) (iI:Int) (zA:Int) (zB:Int),v7=.int .i64 iI∧af (cO.l0 kq bg (wrap64 (2 * (az.length:Int))) iI asZ zA zB aE az=some (r1,r2,r3))∧af (kq≤Yi)∧af (Kd.R (Kd.int .i64) 2 w' w.heap.size (fun _=>True) v5 bg)∧af (w'.heap[ay]?=some (sO aE atb az atc 26))∧af (ag w0 w' g asZ zA zB)∧af (bx w w' g none)∧af (Below w0.heap.size w0 w'))
    case atStart=>exact ⟨(mz),(wrap64 (1+t106)),(t107),(t108),rs,H',⟨Nat.le_refl _⟩,⟨aR (aq.z)⟩,⟨bk⟩,⟨aA ah.z⟩,⟨aK HK.z⟩,⟨aG (ag.ge ah.z) HB.z⟩⟩
    case round =>
     clear H'
     obtain ⟨bg,iI,zA,zB,rfl,HA,bw,aq,aa,ah,HK,HB⟩:=hrel
     cases gk with
     | zero=>exact absurd HA.z (by simp [cO.l0])
     | succ k2 =>
      have H:=HA.z
      clear HA
      simp only [cO.l0] at H
      replace H:=iC H;obtain ⟨auo,H⟩|⟨auo,H⟩:=H
      case inl =>
       replace H:=bS H;obtain ⟨⟨t109,t110,t111⟩,R1,H⟩:=H
       dsimp only at H
       replace H:=iE H;obtain ⟨c71,N7,aev,H⟩|⟨N7,aev,H⟩:=H
       case inl =>
        simp only [Option.some.injEq,Prod.mk.injEq] at H
        obtain ⟨rfl,rfl,rfl⟩:=H
        go_wp2_with (first|(refine aT (f:=49) rfl ?_;refine gC (some 87) Try.func49 #[.pointer (some ⟨g,0,none⟩),.int .i64 24] ?_;(with_reducible refine (cw.calls g asZ zA zB 24 t109 t110 t111 w0 _ ?av ?ax R1.z).mono ?_);(case av=>exact aA ah.z);(case ax=>exact aG (ag.ge ah.z) HB.z);rintro e w75 ⟨rfl,hi,hb,hk⟩;refine ⟨_,rfl,?_⟩;replace aq:=k0 (Kd.aH (Kd.atM (ag.apart (show ag w0 _ g asZ zA zB from aA ah.z) (aR aq.z) (by decide)) hk (fun _ h=>h.2)) (fun _ h=>h.1));replace aa:=kK hk aa cy;replace HK:=atm HK hk;replace HB:=k0 hb;replace ah:=k0 hi))
        go_ret
        exact ⟨_,eR,aR aq.z,aA ah.z,aG (ag.ge ah.z) HB.z,aK HK.z⟩
       replace H:=iS H;obtain ⟨c72,H⟩:=H
       have ab8:=k0 c72
       clear c72
       obtain ⟨vq,vL⟩:=nY (bg ++ [(wrap64 (2 * (az.length:Int)))]:List Int)
       replace H:(some (vq,t110,t111))=some (r1,r2,r3):=rH vL.z H
       simp only [Option.some.injEq,Prod.mk.injEq] at H
       obtain ⟨rfl,rfl,rfl⟩:=H
       go_wp2_with (first|(refine aT (f:=49) rfl ?_;refine gC (some 87) Try.func49 #[.pointer (some ⟨g,0,none⟩),.int .i64 24] ?_;(with_reducible refine (cw.calls g asZ zA zB 24 t109 t110 t111 w0 _ ?av ?ax R1.z).mono ?_);(case av=>exact aA ah.z);(case ax=>exact aG (ag.ge ah.z) HB.z);rintro e RI ⟨rfl,hi,hb,hk⟩;refine ⟨_,rfl,?_⟩;replace aq:=k0 (Kd.aH (Kd.atM (ag.apart (show ag w0 _ g asZ zA zB from aA ah.z) (aR aq.z) (by decide)) hk (fun _ h=>h.2)) (fun _ h=>h.1));replace aa:=kK hk aa cy;replace HK:=atm HK hk;replace HB:=k0 hb;replace ah:=k0 hi)|((with_reducible refine ji (b:=.append) (xs:=#[.tmp 89,.tmp 91]) rfl ?_);at_builtin;refine Kd.oh (Kd.int .i64) w.heap.size rfl (.tmp 89) (.tmp 91) 29 2 (.int .i64 0) 8 rfl Try.underlying29 ju rfl (by decide) (by omega) u5 bg (wrap64 (2 * (az.length:Int))) [.int .i64 (wrap64 (2 * (az.length:Int)))] (fun _=>True) (fun _=>False) rfl rfl ?aP (fun _ hk=>hk.elim) ?aF ?aO (Below.refl _ _) ?aS ?aL ?_;(case aP=>exact rfl);(case aF=>exact (fun _ _=>trivial));(case aO=>exact (aR aq.z));(case aS=>exact (b_ (aK HK.z)));(case aL=>have:=ab8.out;omega);intro xm w74 ho hb hg a_;rw [← vL.z] at ho;replace aa:=k0 (fL (aB aa.z) hg (Kd.jh aq.z aa.z (by decide)));replace HB:=k0 (qC (aG (ag.ge ah.z) HB.z) HL.z hb);replace ah:=k0 (ag.grown (aA ah.z) hg (ag.lK ah.z aq.z (by decide)));replace HK:=k0 (bx.trans (aK HK.z) (bx.auk hg g) (Kd.vN aq.z));have ug:=k0 ho;clear aq;clear ho hb hg a_))
       go_ret
       exact ⟨_,eR,aR ug.z,aA ah.z,aG (ag.ge ah.z) HB.z,aK HK.z⟩
      replace H:=bS H;obtain ⟨⟨t115,t116,t117⟩,xG,H⟩:=H
      dsimp only at H
      have Mj:=k0 H
      clear H
      go_upto_if 39 with (first|(refine aT (f:=49) rfl ?_;refine gC (some 36) Try.func49 #[.pointer (some ⟨g,0,none⟩),.int .i64 (wrap64 (2 * (az.length:Int)))] ?_;(with_reducible refine (cw.calls g asZ zA zB (wrap64 (2 * (az.length:Int))) t115 t116 t117 w0 _ ?av ?ax xG.z).mono ?_);(case av=>exact aA ah.z);(case ax=>exact aG (ag.ge ah.z) HB.z);rintro e C_ ⟨rfl,hi,hb,hk⟩;refine ⟨_,rfl,?_⟩;replace aq:=k0 (Kd.aH (Kd.atM (ag.apart (show ag w0 _ g asZ zA zB from aA ah.z) (aR aq.z) (by decide)) hk (fun _ h=>h.2)) (fun _ h=>h.1));replace aa:=kK hk aa cy;replace HK:=atm HK hk;replace HB:=k0 hb;replace ah:=k0 hi;obtain ⟨zR,au7,rfl⟩:=Kd.b9 aq.z))
      (try simp only [Act.put,zI,zZ,zS])
      go_cut [8] (fun v8 wc=>∃ (kq:Nat) (vp:Int),v8=.int .i64 vp∧af (cO.j3 kq bg (wrap64 (2 * (az.length:Int))) iI vp asZ t116 t117 aE az=some (r1,r2,r3))∧af (kq≤k2)∧af (Kd.R (Kd.int .i64) 2 wc w.heap.size (fun _=>True) (.slice zR bg.length au7) bg)∧af (wc.heap[ay]?=some (sO aE atb az atc 26))∧af (ag w0 wc g asZ t116 t117)∧af (bx w wc g none)∧af (Below w0.heap.size w0 wc))
      case first =>
       have H:=Mj.z
       clear Mj
       by_cases c21:(bg.length:Int) > 0
       case neg =>
        rw [if_neg c21] at H
        have ow:=decide_eq_false c21
        have En:decide (0 < bg.length)=false:=decide_eq_false (by omega)
        clear c21
        (first|rw [ow]|(simp only [bp,bH];rw [ow])|rw [En]|skip)
        have H':=k0 H
        clear H
        go_wp2
        go_meet
        case rel=>exact ⟨_,(t115),rs,(by first|exact H'|(rw [rF];exact H')),⟨by have:=yG.out;have:=bw.z;first|omega|exact Nat.le_refl _⟩,⟨aR (aq.z)⟩,⟨bk⟩,⟨aA ah.z⟩,⟨aK HK.z⟩,⟨aG (ag.ge ah.z) HB.z⟩⟩
       rw [if_pos c21] at H
       have ow:=decide_eq_true c21
       have En:decide (0 < bg.length)=true:=decide_eq_true (by omega)
       clear c21
       (first|rw [ow]|(simp only [bp,bH];rw [ow])|rw [En]|skip)
       obtain ⟨wT,rF⟩:∃ j_:Int,(wrap64 ((bg.length:Int) - 1))=j_:=⟨_,rfl⟩
       replace H:(if 0≤(wT) then (if (wT) < (bg.length:Int) then ((atT.f aE az (rd bg (wT))).bind fun NP=>(cO.l1 k2 bg (wrap64 (2 * (az.length:Int))) iI t115 NP.2 0 asZ t116 t117 aE az)) else (none)) else (none))=some (r1,r2,r3):=by first|(rw [rF] at H;exact H)|(simp only [rF] at H ⊢;exact H)
       have aqc:(IntKind.i64.wrap ((bg.length:Int) - 1))=wT:=(bp _).trans rF
       replace H:=iS H;obtain ⟨c23,H⟩:=H
       have yZ:=decide_eq_true c23
       clear c23
       replace H:=iS H;obtain ⟨c24,H⟩:=H
       have Aq:=decide_eq_true c24
       clear c24
       replace H:=bS H;obtain ⟨⟨t119,t120⟩,L0,H⟩:=H
       dsimp only at H
       have H':=k0 H
       clear H
       try go_wp2
       replace aq:=k0 (Kd.di aq.z);replace aa:=k0 (dg aa.z);replace ah:=k0 (ag.drew ah.z);replace HK:=k0 (wU HK.z);replace HB:=k0 (eZ HB.z)
       have auv:0≤((wT):Int):=oD
       have qj:(wT) < (bg.length:Int):=oD
       obtain ⟨xY,e118,auS⟩:=Kd.bK (Kd.bD aq.z).2.2 (wT) auv qj
       cases e118
       replace auv:=eT auv
       replace qj:=eT qj
       refine atG (n:=13) (S:=fun w'=>w'.cell? ⟨ay,0,none⟩=some (.int .i64 aE)∧w'.cell? ⟨ay,1,none⟩=some (.slice atb az.length atc)∧w'.cell? (xY.add ((wT)).toNat)=some (.int .i64 (rd bg (wT)))) (ds:=[]) (ba 13 0) (by kernel_rfl) rfl rfl ⟨dU aa,ej aa,auS⟩ (fun hHeld=>?_);refine jX cO.Im cO.F7 (fun aj bP=>?_)
       generalize C_.drew=Ff at aq aa ah HK HB auS hHeld ⊢
       refine pu 1 (some 42) (ba 13 2) aj (h:=?_)
       refine pu 2 (some 43) (ba 13 6) aj (h:=?_)
       refine pu 3 (some 44) (ba 13 14) aj (h:=?_)
       refine pu 4 (some 45) (ba 13 30) aj (h:=?_)
       refine pu 5 (some 46) (ba 13 62) aj (h:=?_)
       refine jA 0 (some 41) (ba 13 63) aj bP hHeld (h:=?_)
       refine jA 6 (some 47) (ba 13 127) aj bP hHeld (h:=?_)
       refine atw (i:=7) (N:=some 48) (ba 13 255) rfl rfl (atq aj.out (by kernel_rfl)) (by decide) (fun K hK=>?_)
       refine mI Try.func113 (by kernel_rfl) rfl #[.agg #[.int .i64 aE,.slice atb az.length atc],.int .i64 (rd bg (wT))] (by rfl) rfl rfl (by (try simp only [List.map_toArray,List.map_cons,List.map_nil]);first|done|(simp only [rF];rfl)|rfl|(simp only [List.length_drop,List.length_take];rfl)) ?_
       with_reducible refine (atT.calls aE _ _ az (rd bg (wT)) t119 t120 _ ?av ?ax L0.z).mono ?_
       (case av=>exact Kd.zT ep.z (aK HK.z))
       (case ax=>exact eo.z)
       rintro e Da ⟨rfl,hb⟩
       have D2:=(hb.cell (World.block_lt_of_cell? _ _ (hHeld.2.2))).trans (hHeld.2.2)
       refine ⟨_,rfl,?_⟩
       replace aq:=eI aq hb;replace aa:=kB aa hb;replace HK:=eC HK hb;replace HB:=k0 (cu (aG (ag.ge ah.z) HB.z) hb);replace ah:=k0 (ag.below (aA ah.z) hb)
       refine hK.out _ _ ⟨dU aa,ej aa,D2⟩ (fun hHeld=>?_)
       clear hK K
       refine hJ (a':=?_) ?_ ?_
       rotate_left;· show Act.put _ (some 48) _=_;simp only [Act.put,zI,zZ,zS,bp,bH];rfl
       refine pu 8 (some 40) (ba 13 511) aj (h:=?_)
       refine pu 9 (some 49) (ba 13 1023) aj (h:=?_)
       refine pu 10 (some 50) (ba 13 2047) aj (h:=?_)
       refine pu 11 (some 9) (ba 13 4095) aj (h:=?_)
       refine pu 12 (some 10) (ba 13 8191) aj (h:=?_)
       refine gY (jU aj.out (by kernel_rfl)) ?_
       try go_wp2
       go_loopg [8,11] k2 (fun kq v8 v11 w'=>∃ (fe:Int) (gA:Int),v8=.int .i64 fe∧v11=.int .i64 gA∧af (cO.l1 kq bg (wrap64 (2 * (az.length:Int))) iI fe t120 gA asZ t116 t117 aE az=some (r1,r2,r3))∧af (kq≤k2)∧af (Kd.R (Kd.int .i64) 2 w' w.heap.size (fun _=>True) (.slice (some xY) bg.length au7) bg)∧af (w'.heap[ay]?=some (sO aE atb az atc 26))∧af (ag w0 w' g asZ t116 t117)∧af (bx w w' g none)∧af (Below w0.heap.size w0 w'))
       case atStart=>exact ⟨(t115),(0),rs,rs,H',⟨Nat.le_refl _⟩,⟨aR (aq.z)⟩,⟨bk⟩,⟨aA ah.z⟩,⟨aK HK.z⟩,⟨aG (ag.ge ah.z) HB.z⟩⟩
       case round =>
        clear H'
        obtain ⟨fe,gA,rfl,rfl,HA,cS,aq,aa,ah,HK,HB⟩:=hrel
        cases gk with
        | zero=>exact absurd HA.z (by simp [cO.l1])
        | succ k3 =>
         have H:=HA.z
         clear HA
         simp only [cO.l1] at H
         replace H:=iC H;obtain ⟨N1,H⟩|⟨N1,H⟩:=H
         case inl =>
          have H':=k0 H
          clear H
          go_wp2
          go_meet
          case rel=>exact ⟨_,(fe),rs,(by first|exact H'|(rw [rF];exact H')),⟨by have:=yG.out;have:=bw.z;have:=cS.z;first|omega|exact Nat.le_refl _⟩,⟨aR (aq.z)⟩,⟨bk⟩,⟨aA ah.z⟩,⟨aK HK.z⟩,⟨aG (ag.ge ah.z) HB.z⟩⟩
         by_cases c29:(wrap64 (2 * (az.length:Int)))=0
         case neg =>
          rw [if_neg c29] at H
          have ad7:=beq_eq_false_iff_ne.mpr c29
          have ad8:=bne_iff_ne.mpr c29
          replace H:=bS H;obtain ⟨⟨t121,t122⟩,Ds,H⟩:=H
          dsimp only at H
          replace H:=iE H;obtain ⟨c31,JP,ad_,H⟩|⟨JP,ad_,H⟩:=H
          case inl =>
           have H':=k0 H
           clear H
           try go_wp2
           replace aq:=k0 (Kd.di aq.z);replace aa:=k0 (dg aa.z);replace ah:=k0 (ag.drew ah.z);replace HK:=k0 (wU HK.z);replace HB:=k0 (eZ HB.z)
           refine atG (n:=12) (S:=fun w'=>w'.cell? ⟨ay,0,none⟩=some (.int .i64 aE)∧w'.cell? ⟨ay,1,none⟩=some (.slice atb az.length atc)) (ds:=[]) (ba 12 0) (by kernel_rfl) rfl rfl ⟨dU aa,ej aa⟩ (fun hHeld=>?_);refine jX cO.Ll cO.JI (fun aj bP=>?_)
           generalize wr.drew=IA at aq aa ah HK HB hHeld ⊢
           refine pu 1 (some 58) (ba 12 2) aj (h:=?_)
           refine pu 2 (some 59) (ba 12 6) aj (h:=?_)
           refine pu 3 (some 60) (ba 12 14) aj (h:=?_)
           refine pu 4 (some 61) (ba 12 30) aj (h:=?_)
           refine pu 5 (some 62) (ba 12 62) aj (h:=?_)
           refine t_ 0 (some 57) (ba 12 63) aj bP hHeld (h:=?_)
           refine atw (i:=6) (N:=some 63) (ba 12 127) rfl rfl (atq aj.out (by kernel_rfl)) (by decide) (fun K hK=>?_)
           refine mI Try.func113 (by kernel_rfl) rfl #[.agg #[.int .i64 aE,.slice atb az.length atc],.int .i64 (Int.tmod (wrap64 (fe+gA)) (wrap64 (2 * (az.length:Int))))] (by rfl) rfl rfl gm ?_
           with_reducible refine (atT.calls aE _ _ az (Int.tmod (wrap64 (fe+gA)) (wrap64 (2 * (az.length:Int)))) t121 t122 _ ?av ?ax Ds.z).mono ?_
           (case av=>exact Kd.zT ep.z (aK HK.z))
           (case ax=>exact eo.z)
           rintro e RC ⟨rfl,hb⟩
           refine ⟨_,rfl,?_⟩
           replace aq:=eI aq hb;replace aa:=kB aa hb;replace HK:=eC HK hb;replace HB:=k0 (cu (aG (ag.ge ah.z) HB.z) hb);replace ah:=k0 (ag.below (aA ah.z) hb)
           refine hK.out _ _ ⟨dU aa,ej aa⟩ (fun hHeld=>?_)
           clear hK K
           refine hJ (a':=?_) ?_ ?_
           rotate_left;· show Act.put _ (some 63) _=_;simp only [Act.put,zI,zZ,zS,bp,bH];rfl
           refine pu 7 (some 56) (ba 12 255) aj (h:=?_)
           refine pu 8 (some 64) (ba 12 511) aj (h:=?_)
           refine pu 9 (some 65) (ba 12 1023) aj (h:=?_)
           refine pu 10 (some 12) (ba 12 2047) aj (h:=?_)
           refine pu 11 (some 13) (ba 12 4095) aj (h:=?_)
           refine gY (jU aj.out (by kernel_rfl)) ?_
           try go_wp2
           first|go_roundg k3|(simp only [← rF];go_roundg k3)
           case measure=>have:=yG.out;have:=bw.z;have:=cS.z;omega
           case rel=>exact ⟨(fe),(wrap64 (gA+1)),rs,rs,(by first|exact H'|(rw [rF];exact H')),⟨by have:=yG.out;have:=bw.z;have:=cS.z;omega⟩,⟨aR (aq.z)⟩,⟨bk⟩,⟨aA ah.z⟩,⟨aK HK.z⟩,⟨aG (ag.ge ah.z) HB.z⟩⟩
          have H':=k0 H
          clear H
          try go_wp2
          replace aq:=k0 (Kd.di aq.z);replace aa:=k0 (dg aa.z);replace ah:=k0 (ag.drew ah.z);replace HK:=k0 (wU HK.z);replace HB:=k0 (eZ HB.z)
          refine atG (n:=12) (S:=fun w'=>w'.cell? ⟨ay,0,none⟩=some (.int .i64 aE)∧w'.cell? ⟨ay,1,none⟩=some (.slice atb az.length atc)) (ds:=[]) (ba 12 0) (by kernel_rfl) rfl rfl ⟨dU aa,ej aa⟩ (fun hHeld=>?_);refine jX cO.Ll cO.JI (fun aj bP=>?_)
          generalize wr.drew=Iz at aq aa ah HK HB hHeld ⊢
          refine pu 1 (some 58) (ba 12 2) aj (h:=?_)
          refine pu 2 (some 59) (ba 12 6) aj (h:=?_)
          refine pu 3 (some 60) (ba 12 14) aj (h:=?_)
          refine pu 4 (some 61) (ba 12 30) aj (h:=?_)
          refine pu 5 (some 62) (ba 12 62) aj (h:=?_)
          refine t_ 0 (some 57) (ba 12 63) aj bP hHeld (h:=?_)
          refine atw (i:=6) (N:=some 63) (ba 12 127) rfl rfl (atq aj.out (by kernel_rfl)) (by decide) (fun K hK=>?_)
          refine mI Try.func113 (by kernel_rfl) rfl #[.agg #[.int .i64 aE,.slice atb az.length atc],.int .i64 (Int.tmod (wrap64 (fe+gA)) (wrap64 (2 * (az.length:Int))))] (by rfl) rfl rfl gm ?_
          with_reducible refine (atT.calls aE _ _ az (Int.tmod (wrap64 (fe+gA)) (wrap64 (2 * (az.length:Int)))) t121 t122 _ ?av ?ax Ds.z).mono ?_
          (case av=>exact Kd.zT ep.z (aK HK.z))
          (case ax=>exact eo.z)
          rintro e xo ⟨rfl,hb⟩
          refine ⟨_,rfl,?_⟩
          replace aq:=eI aq hb;replace aa:=kB aa hb;replace HK:=eC HK hb;replace HB:=k0 (cu (aG (ag.ge ah.z) HB.z) hb);replace ah:=k0 (ag.below (aA ah.z) hb)
          refine hK.out _ _ ⟨dU aa,ej aa⟩ (fun hHeld=>?_)
          clear hK K
          refine hJ (a':=?_) ?_ ?_
          rotate_left;· show Act.put _ (some 63) _=_;simp only [Act.put,zI,zZ,zS,bp,bH];rfl
          refine pu 7 (some 56) (ba 12 255) aj (h:=?_)
          refine pu 8 (some 64) (ba 12 511) aj (h:=?_)
          refine pu 9 (some 65) (ba 12 1023) aj (h:=?_)
          refine pu 10 (some 12) (ba 12 2047) aj (h:=?_)
          refine pu 11 (some 13) (ba 12 4095) aj (h:=?_)
          refine gY (jU aj.out (by kernel_rfl)) ?_
          try go_wp2
          go_meet
          case rel=>exact ⟨_,(Int.tmod (wrap64 (fe+gA)) (wrap64 (2 * (az.length:Int)))),rs,(by first|exact H'|(rw [rF];exact H')),⟨by have:=yG.out;have:=bw.z;have:=cS.z;first|omega|exact Nat.le_refl _⟩,⟨aR (aq.z)⟩,⟨bk⟩,⟨aA ah.z⟩,⟨aK HK.z⟩,⟨aG (ag.ge ah.z) HB.z⟩⟩
         rw [if_pos c29] at H
         exact absurd H (by simp)
      case rest =>
       clear Mj
       obtain ⟨kq,vp,rfl,HA,Jb,aq,aa,ah,HK,HB⟩:=hcut
       cases kq with
       | zero=>exact absurd HA.z (by simp [cO.j3])
       | succ wW =>
        have H:=HA.z
        clear HA
        simp only [cO.j3] at H
        replace H:=iS H;obtain ⟨c36,H⟩:=H
        have Jo:=k0 c36
        clear c36
        obtain ⟨atH,rX⟩:=nY (bg ++ [vp]:List Int)
        replace H:((fI.f wW aE az atH).bind fun t126=>(if t126=true then ((cw.f asZ t116 t117 3).bind fun kD=>(if kD.1 > 0 then ((cw.f asZ kD.2.1 kD.2.2 24).bind fun gU=>(if gU.1=0 then (if atH.length < 17592186044416 then (some ((atH ++ [(wrap64 (2 * (az.length:Int)))]),gU.2.1,gU.2.2)) else (none)) else (some (atH,gU.2.1,gU.2.2)))) else (cO.l0 wW atH (wrap64 (2 * (az.length:Int))) (wrap64 (iI - 1)) asZ kD.2.1 kD.2.2 aE az))) else (cO.l0 wW atH (wrap64 (2 * (az.length:Int))) (wrap64 (iI - 1)) asZ t116 t117 aE az)))=some (r1,r2,r3):=rH rX.z H
        replace H:=bS H;obtain ⟨t126,I0,H⟩:=H
        cases t126
        case false =>
         replace H:=iF H
         have H':=k0 H
         clear H
         go_wp2_with (first|((with_reducible refine ji (b:=.append) (xs:=#[.tmp 74,.tmp 76]) rfl ?_);at_builtin;refine Kd.oh (Kd.int .i64) w.heap.size rfl (.tmp 74) (.tmp 76) 29 2 (.int .i64 0) 8 rfl Try.underlying29 ju rfl (by decide) (by omega) (.slice zR bg.length au7) bg vp [.int .i64 vp] (fun _=>True) (fun _=>False) rfl rfl ?aP (fun _ hk=>hk.elim) ?aF ?aO (Below.refl _ _) ?aS ?aL ?_;(case aP=>exact rfl);(case aF=>exact (fun _ _=>trivial));(case aO=>exact (aR aq.z));(case aS=>exact (b_ (aK HK.z)));(case aL=>have:=Jo.out;omega);intro Fa w65 ho hb hg a_;rw [← rX.z] at ho;replace aa:=k0 (fL (aB aa.z) hg (Kd.jh aq.z aa.z (by decide)));replace HB:=k0 (qC (aG (ag.ge ah.z) HB.z) HL.z hb);replace ah:=k0 (ag.grown (aA ah.z) hg (ag.lK ah.z aq.z (by decide)));replace HK:=k0 (bx.trans (aK HK.z) (bx.auk hg g) (Kd.vN aq.z));have cP:=k0 ho;clear aq;clear ho hb hg a_;obtain ⟨_,_⟩:=nE cy;obtain ⟨_,_,_,_⟩:=as9 aa;obtain ⟨L5,Om,rfl⟩:=Kd.b9 cP.z)|(refine aT (f:=125) rfl ?_;refine gC (some 80) Try.func125 #[.agg #[.int .i64 aE,.slice atb az.length atc],.slice L5 atH.length Om] ?_;(with_reducible refine (fI.calls wW aE _ _ az _ _ atH false _ ?av ?ax ?bM ?bT I0.z).mono ?_);(case av=>exact Kd.zT ep.z (aK HK.z));(case ax=>exact eo.z);(case bM=>exact aC ((Kd.bD cP.z).2.2));(case bT=>exact (Kd.bD cP.z).2.1);rintro e w69 ⟨rfl,hb⟩;refine ⟨_,rfl,?_⟩;replace cP:=eI cP hb;replace aa:=kB aa hb;replace HK:=eC HK hb;replace HB:=k0 (cu (aG (ag.ge ah.z) HB.z) hb);replace ah:=k0 (ag.below (aA ah.z) hb)))
         first|go_roundg wW|(simp only [← rF];go_roundg wW)
         case measure=>have:=yG.out;have:=bw.z;have:=Jb.out;omega
         case rel=>exact ⟨(atH),(wrap64 (iI - 1)),(t116),(t117),rs,(by first|exact H'|(rw [rF];exact H')),⟨by have:=yG.out;have:=bw.z;have:=Jb.out;omega⟩,⟨aR (cP.z)⟩,⟨bk⟩,⟨aA ah.z⟩,⟨aK HK.z⟩,⟨aG (ag.ge ah.z) HB.z⟩⟩
        replace H:=iT H
        replace H:=bS H;obtain ⟨⟨t127,t128,t129⟩,Fq,H⟩:=H
        dsimp only at H
        replace H:=iC H;obtain ⟨Ci,H⟩|⟨Ci,H⟩:=H
        case inl =>
         have H':=k0 H
         clear H
         go_wp2_with (first|((with_reducible refine ji (b:=.append) (xs:=#[.tmp 74,.tmp 76]) rfl ?_);at_builtin;refine Kd.oh (Kd.int .i64) w.heap.size rfl (.tmp 74) (.tmp 76) 29 2 (.int .i64 0) 8 rfl Try.underlying29 ju rfl (by decide) (by omega) (.slice zR bg.length au7) bg vp [.int .i64 vp] (fun _=>True) (fun _=>False) rfl rfl ?aP (fun _ hk=>hk.elim) ?aF ?aO (Below.refl _ _) ?aS ?aL ?_;(case aP=>exact rfl);(case aF=>exact (fun _ _=>trivial));(case aO=>exact (aR aq.z));(case aS=>exact (b_ (aK HK.z)));(case aL=>have:=Jo.out;omega);intro Fa zz ho hb hg a_;rw [← rX.z] at ho;replace aa:=k0 (fL (aB aa.z) hg (Kd.jh aq.z aa.z (by decide)));replace HB:=k0 (qC (aG (ag.ge ah.z) HB.z) HL.z hb);replace ah:=k0 (ag.grown (aA ah.z) hg (ag.lK ah.z aq.z (by decide)));replace HK:=k0 (bx.trans (aK HK.z) (bx.auk hg g) (Kd.vN aq.z));have cP:=k0 ho;clear aq;clear ho hb hg a_;obtain ⟨_,_⟩:=nE cy;obtain ⟨_,_,_,_⟩:=as9 aa;obtain ⟨ua,uB,rfl⟩:=Kd.b9 cP.z)|(refine aT (f:=125) rfl ?_;refine gC (some 80) Try.func125 #[.agg #[.int .i64 aE,.slice atb az.length atc],.slice ua atH.length uB] ?_;(with_reducible refine (fI.calls wW aE _ _ az _ _ atH true _ ?av ?ax ?bM ?bT I0.z).mono ?_);(case av=>exact Kd.zT ep.z (aK HK.z));(case ax=>exact eo.z);(case bM=>exact aC ((Kd.bD cP.z).2.2));(case bT=>exact (Kd.bD cP.z).2.1);rintro e RH ⟨rfl,hb⟩;refine ⟨_,rfl,?_⟩;replace cP:=eI cP hb;replace aa:=kB aa hb;replace HK:=eC HK hb;replace HB:=k0 (cu (aG (ag.ge ah.z) HB.z) hb);replace ah:=k0 (ag.below (aA ah.z) hb))|(go_at_call 49;(with_reducible refine (cw.calls g asZ t116 t117 3 t127 t128 t129 w0 _ ?av ?ax Fq.z).mono ?_);(case av=>exact aA ah.z);(case ax=>exact aG (ag.ge ah.z) HB.z);rintro e fE ⟨rfl,hi,hb,hk⟩;replace aa:=kK hk aa cy;replace cP:=k0 (Kd.aH (Kd.atM (ag.apart (show ag w0 _ g asZ t116 t117 from aA ah.z) (aR cP.z) (by decide)) hk (fun _ h=>h.2)) (fun _ h=>h.1));replace HK:=atm HK hk;replace HB:=k0 hb;replace ah:=k0 hi))
         first|go_roundg wW|(simp only [← rF];go_roundg wW)
         case measure=>have:=yG.out;have:=bw.z;have:=Jb.out;omega
         case rel=>exact ⟨(atH),(wrap64 (iI - 1)),(t128),(t129),rs,(by first|exact H'|(rw [rF];exact H')),⟨by have:=yG.out;have:=bw.z;have:=Jb.out;omega⟩,⟨aR (cP.z)⟩,⟨bk⟩,⟨aA ah.z⟩,⟨aK HK.z⟩,⟨aG (ag.ge ah.z) HB.z⟩⟩
        replace H:=bS H;obtain ⟨⟨t130,t131,t132⟩,I2,H⟩:=H
        dsimp only at H
        replace H:=iE H;obtain ⟨c42,Cj,JQ,H⟩|⟨Cj,JQ,H⟩:=H
        case inl =>
         simp only [Option.some.injEq,Prod.mk.injEq] at H
         obtain ⟨rfl,rfl,rfl⟩:=H
         go_wp2_with (first|((with_reducible refine ji (b:=.append) (xs:=#[.tmp 74,.tmp 76]) rfl ?_);at_builtin;refine Kd.oh (Kd.int .i64) w.heap.size rfl (.tmp 74) (.tmp 76) 29 2 (.int .i64 0) 8 rfl Try.underlying29 ju rfl (by decide) (by omega) (.slice zR bg.length au7) bg vp [.int .i64 vp] (fun _=>True) (fun _=>False) rfl rfl ?aP (fun _ hk=>hk.elim) ?aF ?aO (Below.refl _ _) ?aS ?aL ?_;(case aP=>exact rfl);(case aF=>exact (fun _ _=>trivial));(case aO=>exact (aR aq.z));(case aS=>exact (b_ (aK HK.z)));(case aL=>have:=Jo.out;omega);intro Fa ZJ ho hb hg a_;rw [← rX.z] at ho;replace aa:=k0 (fL (aB aa.z) hg (Kd.jh aq.z aa.z (by decide)));replace HB:=k0 (qC (aG (ag.ge ah.z) HB.z) HL.z hb);replace ah:=k0 (ag.grown (aA ah.z) hg (ag.lK ah.z aq.z (by decide)));replace HK:=k0 (bx.trans (aK HK.z) (bx.auk hg g) (Kd.vN aq.z));have cP:=k0 ho;clear aq;clear ho hb hg a_;obtain ⟨_,_⟩:=nE cy;obtain ⟨_,_,_,_⟩:=as9 aa;obtain ⟨Dv,vW,rfl⟩:=Kd.b9 cP.z)|(refine aT (f:=125) rfl ?_;refine gC (some 80) Try.func125 #[.agg #[.int .i64 aE,.slice atb az.length atc],.slice Dv atH.length vW] ?_;(with_reducible refine (fI.calls wW aE _ _ az _ _ atH true _ ?av ?ax ?bM ?bT I0.z).mono ?_);(case av=>exact Kd.zT ep.z (aK HK.z));(case ax=>exact eo.z);(case bM=>exact aC ((Kd.bD cP.z).2.2));(case bT=>exact (Kd.bD cP.z).2.1);rintro e ZK ⟨rfl,hb⟩;refine ⟨_,rfl,?_⟩;replace cP:=eI cP hb;replace aa:=kB aa hb;replace HK:=eC HK hb;replace HB:=k0 (cu (aG (ag.ge ah.z) HB.z) hb);replace ah:=k0 (ag.below (aA ah.z) hb))|(go_at_call 49;(with_reducible refine (cw.calls g asZ t116 t117 3 t127 t128 t129 w0 _ ?av ?ax Fq.z).mono ?_);(case av=>exact aA ah.z);(case ax=>exact aG (ag.ge ah.z) HB.z);rintro e Bq ⟨rfl,hi,hb,hk⟩;replace aa:=kK hk aa cy;replace cP:=k0 (Kd.aH (Kd.atM (ag.apart (show ag w0 _ g asZ t116 t117 from aA ah.z) (aR cP.z) (by decide)) hk (fun _ h=>h.2)) (fun _ h=>h.1));replace HK:=atm HK hk;replace HB:=k0 hb;replace ah:=k0 hi)|(refine aT (f:=49) rfl ?_;refine gC (some 87) Try.func49 #[.pointer (some ⟨g,0,none⟩),.int .i64 24] ?_;(with_reducible refine (cw.calls g asZ t128 t129 24 t130 t131 t132 w0 _ ?av ?ax I2.z).mono ?_);(case av=>exact aA ah.z);(case ax=>exact aG (ag.ge ah.z) HB.z);rintro e w58 ⟨rfl,hi,hb,hk⟩;refine ⟨_,rfl,?_⟩;replace aa:=kK hk aa cy;replace cP:=k0 (Kd.aH (Kd.atM (ag.apart (show ag w0 _ g asZ t128 t129 from aA ah.z) (aR cP.z) (by decide)) hk (fun _ h=>h.2)) (fun _ h=>h.1));replace HK:=atm HK hk;replace HB:=k0 hb;replace ah:=k0 hi))
         go_ret
         exact ⟨_,eR,aR cP.z,aA ah.z,aG (ag.ge ah.z) HB.z,aK HK.z⟩
        replace H:=iS H;obtain ⟨c43,H⟩:=H
        have Nj:=k0 c43
        clear c43
        obtain ⟨xC,yP⟩:=nY (atH ++ [(wrap64 (2 * (az.length:Int)))]:List Int)
        replace H:(some (xC,t131,t132))=some (r1,r2,r3):=rH yP.z H
        simp only [Option.some.injEq,Prod.mk.injEq] at H
        obtain ⟨rfl,rfl,rfl⟩:=H
        go_wp2_with (first|((with_reducible refine ji (b:=.append) (xs:=#[.tmp 74,.tmp 76]) rfl ?_);at_builtin;refine Kd.oh (Kd.int .i64) w.heap.size rfl (.tmp 74) (.tmp 76) 29 2 (.int .i64 0) 8 rfl Try.underlying29 ju rfl (by decide) (by omega) (.slice zR bg.length au7) bg vp [.int .i64 vp] (fun _=>True) (fun _=>False) rfl rfl ?aP (fun _ hk=>hk.elim) ?aF ?aO (Below.refl _ _) ?aS ?aL ?_;(case aP=>exact rfl);(case aF=>exact (fun _ _=>trivial));(case aO=>exact (aR aq.z));(case aS=>exact (b_ (aK HK.z)));(case aL=>have:=Jo.out;omega);intro Fa RD ho hb hg a_;rw [← rX.z] at ho;replace aa:=k0 (fL (aB aa.z) hg (Kd.jh aq.z aa.z (by decide)));replace HB:=k0 (qC (aG (ag.ge ah.z) HB.z) HL.z hb);replace ah:=k0 (ag.grown (aA ah.z) hg (ag.lK ah.z aq.z (by decide)));replace HK:=k0 (bx.trans (aK HK.z) (bx.auk hg g) (Kd.vN aq.z));have cP:=k0 ho;clear aq;clear ho hb hg a_;obtain ⟨_,_⟩:=nE cy;obtain ⟨_,_,_,_⟩:=as9 aa;obtain ⟨Fu,Gk,rfl⟩:=Kd.b9 cP.z)|(refine aT (f:=125) rfl ?_;refine gC (some 80) Try.func125 #[.agg #[.int .i64 aE,.slice atb az.length atc],.slice Fu atH.length Gk] ?_;(with_reducible refine (fI.calls wW aE _ _ az _ _ atH true _ ?av ?ax ?bM ?bT I0.z).mono ?_);(case av=>exact Kd.zT ep.z (aK HK.z));(case ax=>exact eo.z);(case bM=>exact aC ((Kd.bD cP.z).2.2));(case bT=>exact (Kd.bD cP.z).2.1);rintro e Ly ⟨rfl,hb⟩;refine ⟨_,rfl,?_⟩;replace cP:=eI cP hb;replace aa:=kB aa hb;replace HK:=eC HK hb;replace HB:=k0 (cu (aG (ag.ge ah.z) HB.z) hb);replace ah:=k0 (ag.below (aA ah.z) hb))|(go_at_call 49;(with_reducible refine (cw.calls g asZ t116 t117 3 t127 t128 t129 w0 _ ?av ?ax Fq.z).mono ?_);(case av=>exact aA ah.z);(case ax=>exact aG (ag.ge ah.z) HB.z);rintro e RE ⟨rfl,hi,hb,hk⟩;replace aa:=kK hk aa cy;replace cP:=k0 (Kd.aH (Kd.atM (ag.apart (show ag w0 _ g asZ t116 t117 from aA ah.z) (aR cP.z) (by decide)) hk (fun _ h=>h.2)) (fun _ h=>h.1));replace HK:=atm HK hk;replace HB:=k0 hb;replace ah:=k0 hi)|(refine aT (f:=49) rfl ?_;refine gC (some 87) Try.func49 #[.pointer (some ⟨g,0,none⟩),.int .i64 24] ?_;(with_reducible refine (cw.calls g asZ t128 t129 24 t130 t131 t132 w0 _ ?av ?ax I2.z).mono ?_);(case av=>exact aA ah.z);(case ax=>exact aG (ag.ge ah.z) HB.z);rintro e RF ⟨rfl,hi,hb,hk⟩;refine ⟨_,rfl,?_⟩;replace aa:=kK hk aa cy;replace cP:=k0 (Kd.aH (Kd.atM (ag.apart (show ag w0 _ g asZ t128 t129 from aA ah.z) (aR cP.z) (by decide)) hk (fun _ h=>h.2)) (fun _ h=>h.1));replace HK:=atm HK hk;replace HB:=k0 hb;replace ah:=k0 hi)|((with_reducible refine ji (b:=.append) (xs:=#[.tmp 89,.tmp 91]) rfl ?_);at_builtin;refine Kd.oh (Kd.int .i64) w.heap.size rfl (.tmp 89) (.tmp 91) 29 2 (.int .i64 0) 8 rfl Try.underlying29 ju rfl (by decide) (by omega) (.slice Fu atH.length Gk) atH (wrap64 (2 * (az.length:Int))) [.int .i64 (wrap64 (2 * (az.length:Int)))] (fun _=>True) (fun _=>False) rfl rfl ?aP (fun _ hk=>hk.elim) ?aF ?aO (Below.refl _ _) ?aS ?aL ?_;(case aP=>exact rfl);(case aF=>exact (fun _ _=>trivial));(case aO=>exact (aR cP.z));(case aS=>exact (b_ (aK HK.z)));(case aL=>have:=Nj.out;omega);intro akU w51 ho hb hg a_;rw [← yP.z] at ho;replace aa:=k0 (fL (aB aa.z) hg (Kd.jh cP.z aa.z (by decide)));replace HB:=k0 (qC (aG (ag.ge ah.z) HB.z) HL.z hb);replace ah:=k0 (ag.grown (aA ah.z) hg (ag.lK ah.z cP.z (by decide)));replace HK:=k0 (bx.trans (aK HK.z) (bx.auk hg g) (Kd.vN cP.z));have sW:=k0 ho;clear cP;clear ho hb hg a_))
        go_ret
        exact ⟨_,eR,aR sW.z,aA ah.z,aG (ag.ge ah.z) HB.z,aK HK.z⟩
   replace H:=iT H
   simp only [Option.some.injEq,Prod.mk.injEq] at H
   obtain ⟨rfl,rfl,rfl⟩:=H
   go_wp2
   go_ret
   exact ⟨_,eR,aR aq.z,aA ah.z,aG (ag.ge ah.z) HB.z,aK HK.z⟩
end Go.Proofs.Ytapnggjaeehpdaa.B
/- Set with little white space, by a program. -/
