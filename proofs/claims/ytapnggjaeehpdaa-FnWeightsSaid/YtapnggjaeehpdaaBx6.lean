/- Go's calls come to what the Lean functions say. Condition of each: that the Lean function answers. -/
import Derived.Test.YtapnggjaeehpdaaBx0
import Derived.Test.YtapnggjaeehpdaaBx1
import Derived.Test.YtapnggjaeehpdaaBx3
import Derived.Test.YtapnggjaeehpdaaBx5
namespace Go.Proofs.Ytapnggjaeehpdaa.B
open Go.RowKit Go.Proofs.bz.dI Go.Proofs.bz.iY Go.Proofs.bz.jn
attribute [local go_sem] max2_int min2_int max_two min_two max_three min_three max_four min_four
set_option linter.unusedVariables false
set_option linter.unusedSimpArgs false
set_option maxHeartbeats 8000000
set_option maxRecDepth 100000
/-! ### F129: function 129 -/
mutual
def dc.l0 : Nat → Int → Int → Bool → Int → List Int → Int → Int → Int → List (List Int) → Option (Int × (List (List Int)) × Int × Int)
 | 0,_,_,_,_,_,_,_,_,_=>none
 | k+1,x1,x2,x8,x9,fF,jx,jy,rO,mP=>if x9 < x1 then (if x8=true then (dc.j1 k x1 x2 x8 x9 (decide ((mP.length:Int) < x2)) fF jx jy rO mP) else (dc.j1 k x1 x2 x8 x9 false fF jx jy rO mP)) else (dc.j1 k x1 x2 x8 x9 false fF jx jy rO mP)
def dc.j1 : Nat → Int → Int → Bool → Int → Bool → List Int → Int → Int → Int → List (List Int) → Option (Int × (List (List Int)) × Int × Int)
 | 0,_,_,_,_,_,_,_,_,_,_=>none
 | k+1,x1,x2,x8,x9,Dj,fF,jx,jy,rO,mP=>if Dj=true then ((cw.f fF jx jy x9).bind fun lY=>((cw.f fF lY.2.1 lY.2.2 2).bind fun s_=>(if s_.1=0 then (if mP.length < 5864062014805 then (dc.l0 k x1 x2 x8 (wrap64 (x9+1)) fF s_.2.1 s_.2.2 rO (mP ++ [(([x9,lY.1]:List Int))])) else (none)) else (if mP.length < 5864062014805 then (dc.l0 k x1 x2 x8 (wrap64 (x9+1)) fF s_.2.1 s_.2.2 rO (mP ++ [(([lY.1,x9]:List Int))])) else (none))))) else ((cw.f fF jx jy (wrap64 (x2+1))).bind fun kD=>(dc.l1 k x1 x2 kD.1 fF kD.2.1 kD.2.2 rO mP))
def dc.l1 : Nat → Int → Int → Int → List Int → Int → Int → Int → List (List Int) → Option (Int × (List (List Int)) × Int × Int)
 | 0,_,_,_,_,_,_,_,_=>none
 | k+1,x1,x2,atx,fF,jx,jy,rO,mP=>if atx > 0 then (dc.j3 k x1 x2 atx (decide ((mP.length:Int) < x2)) fF jx jy rO mP) else (dc.j3 k x1 x2 atx false fF jx jy rO mP)
def dc.j3 : Nat → Int → Int → Int → Bool → List Int → Int → Int → Int → List (List Int) → Option (Int × (List (List Int)) × Int × Int)
 | 0,_,_,_,_,_,_,_,_,_=>none
 | k+1,x1,x2,atx,x69,fF,jx,jy,rO,mP=>if x69=true then ((cw.f fF jx jy x1).bind fun gU=>((cw.f fF gU.2.1 gU.2.2 x1).bind fun mG=>(if gU.1=mG.1 then ((cw.f fF mG.2.1 mG.2.2 3).bind fun td=>(if td.1 > 0 then (if x1=0 then (none) else (if mP.length < 5864062014805 then (dc.l1 k x1 x2 (wrap64 (atx - 1)) fF td.2.1 td.2.2 rO (mP ++ [(([gU.1,Int.tmod (wrap64 (gU.1+1)) x1]:List Int))])) else (none))) else (if mP.length < 5864062014805 then (dc.l1 k x1 x2 (wrap64 (atx - 1)) fF td.2.1 td.2.2 rO (mP ++ [(([gU.1,mG.1]:List Int))])) else (none)))) else (if mP.length < 5864062014805 then (dc.l1 k x1 x2 (wrap64 (atx - 1)) fF mG.2.1 mG.2.2 rO (mP ++ [(([gU.1,mG.1]:List Int))])) else (none))))) else (some (rO,mP,jx,jy))
end
def dc.f (k:Nat) (asZ:List Int) (bB:Int) (ate:Int) (a1:Int) (a2:Int):Option (Int × (List (List Int)) × Int × Int):=(cw.f asZ bB ate 3).bind fun gi=>(dc.l0 k a1 a2 (decide (gi.1 > 0)) 1 asZ gi.2.1 gi.2.2 a1 (([]:List (List Int))))
theorem dc.calls (k : Nat) (g : Nat) (asZ : List Int) (bB : Int) (ate : Int) (a1 : Int) (a2 : Int) (r1 : Int) (r2 : List (List Int)) (r3 : Int) (r4 : Int) (w0 w : World) (hI : ag w0 w g asZ bB ate) (hB : Below w0.heap.size w0 w) (h : dc.f k asZ bB ate a1 a2 = some (r1, r2, r3, r4)) :
  Calls Try.prog 129 #[.pointer (some ⟨g,0,none⟩),.int .i64 a1,.int .i64 a2] w fun e w'=>∃ nP:Value,e=.returned (.agg #[.int .i64 r1,nP])∧Kd.S (Kd.slice 2 (Kd.int .i64)) 29 w' w.heap.size (fun _=>True) nP r2∧ag w0 w' g asZ r3 r4∧Below w0.heap.size w0 w'∧bx w w' g none:=by
 have gV:=Try.underlying26
 have ah:=k0 hI
 have HK:=k0 (bx.refl w g none)
 have HL:=k0 hB.size
 clear hI
 have jg:=k0 hB.size
 have HB:=k0 hB
 clear hB
 unfold dc.f at h
 have H:=h
 clear h
 obtain ⟨mz,rq⟩:=nY (([]:List (List Int)):List (List Int))
 replace H:((cw.f asZ bB ate 3).bind fun gi=>(dc.l0 k a1 a2 (decide (gi.1 > 0)) 1 asZ gi.2.1 gi.2.2 a1 mz))=some (r1,r2,r3,r4):=rH rq.z H
 replace H:=bS H;obtain ⟨⟨t106,t107,t108⟩,A4,H⟩:=H
 dsimp only at H
 have H':=k0 H
 clear H
 go_enter Try.func129,Try.ntmps129
 go_wp2_with (first|(refine aX (N:=6) rfl ?_;(try (refine at2 (by rfl) ?_;dsimp only));refine eJ 6 #[.int .i64 0,.slice none 0 0] 26 ?_;intro ay hg w5 aY hb;replace HB:=k0 (cu (aG (ag.ge ah.z) HB.z) hb);have aa:=k0 aY;have bn:=gW hg (b_ (aK HK.z));have cG:=k0 (Nat.le_trans jg.z bn.z);replace HK:=eC HK hb;have vH:=k0 ((by rw [hg];exact Nat.ne_of_lt (ag.lt (show ag w0 _ g asZ bB ate from aA ah.z)):g ≠ ay));have cy:=k0 ((by rw [hg];exact Nat.ne_of_gt (ag.lt (show ag w0 _ g asZ bB ate from aA ah.z)):ay ≠ g));replace ah:=k0 (ag.below (aA ah.z) hb);clear hb aY hg)|(refine aX (N:=15) rfl ?_;(try (refine at2 (by rfl) ?_;dsimp only));refine Kd.Eb (Kd.slice 2 (Kd.int .i64)) _ 29 ?hg (N:=15) ?hd (xs:=([]:List (List Int))) (inner:=[]) (ok:=fun _=>True) (cm:=fun _=>True) ?hr ?hp (fun _ hk=>hk) trivial (Below.refl _ _) (Nat.le_refl _) (by simp) ?_;(case hd=>rfl);(case hg=>rfl);(case hr=>first|(go_simp;done)|(go_simp;rfl));(case hp=>exact (aJ.none _ _));intro zw w6 p9 hb bR atf;clear bR atf;(first|rw [← rq.z] at p9|(simp only [Int.reduceToNat] at p9;rw [← rq.z] at p9));have fh:=k0 (Kd.jD p9 (b_ (aK HK.z)));replace aa:=kB aa hb;replace HK:=eC HK hb;replace HB:=k0 (cu (aG (ag.ge ah.z) HB.z) hb);replace ah:=k0 (ag.below (aA ah.z) hb);clear hb p9;obtain ⟨xK,x_,rfl⟩:=Kd.er fh.z)|(refine aX (N:=7) rfl ?_;(try (refine at2 (by rfl) ?_;dsimp only));refine eJ 7 #[.int .i64 0,.slice none 0 0] 26 ?_;intro Cq hg w9 aY hb;replace fh:=nF fh hb;replace HB:=k0 (cu (aG (ag.ge ah.z) HB.z) hb);have cB:=k0 aY;have aaX:=gW hg (b_ (aK HK.z));have ams:=k0 (Nat.le_trans jg.z aaX.z);replace HK:=eC HK hb;have qy:=nL hg aa;have auG:=nG qy;replace aa:=kB aa hb;have ank:=k0 ((by rw [hg];exact Nat.ne_of_lt (ag.lt (show ag w0 _ g asZ bB ate from aA ah.z)):g ≠ Cq));have lT:=k0 ((by rw [hg];exact Nat.ne_of_gt (ag.lt (show ag w0 _ g asZ bB ate from aA ah.z)):Cq ≠ g));replace ah:=k0 (ag.below (aA ah.z) hb);clear hb aY hg;obtain ⟨_,_⟩:=nE auG;obtain ⟨_,_⟩:=nE lT;obtain ⟨_,_,_,_⟩:=as9 cB)|(refine aT (f:=49) rfl ?_;refine gC (some 18) Try.func49 #[.pointer (some ⟨g,0,none⟩),.int .i64 3] ?_;(with_reducible refine (cw.calls g asZ bB ate 3 t106 t107 t108 w0 _ ?av ?ax A4.z).mono ?_);(case av=>exact aA ah.z);(case ax=>exact aG (ag.ge ah.z) HB.z);rintro e rK ⟨rfl,hi,hb,hk⟩;refine ⟨_,rfl,?_⟩;replace aa:=k0 (bx.blk hk (g':=ay) (o:=.cells #[.int .i64 0,.slice none 0 0] 26 (0,0)) kZ cy.z (by simp));replace fh:=k0 (Kd.bQ (Kd.qz (ag.p6 (show ag w0 _ g asZ bB ate from aA ah.z) (Lm fh cB) (by decide)) hk (fun _ h=>h.2)) (fun _ h=>h.1));replace cB:=k0 (bx.blk hk (g':=Cq) (o:=sO a1 xK mz x_ 26) kZ lT.z (by simp));replace HK:=atm HK hk;replace HB:=k0 hb;replace ah:=k0 hi))
 go_loopg [9] k (fun kq v9 w'=>∃ (jL:Int) (kO:Int) (at1:Int) (rP:List (List Int)) (u106001:Value),v9=.int .i64 jL∧af (dc.l0 kq a1 a2 (decide (t106 > 0)) jL asZ kO at1 a1 rP=some (r1,r2,r3,r4))∧af (kq≤k)∧af (Kd.S (Kd.slice 2 (Kd.int .i64)) 29 w' w.heap.size (fun _=>True) u106001 rP)∧af (w'.heap[ay]?=some (.cells #[.int .i64 0,(.slice none 0 0)] 26 (0,0)))∧af (w'.heap[Cq]?=some (.cells #[.int .i64 a1,u106001] 26 (0,0)))∧af (ag w0 w' g asZ kO at1)∧af (bx w w' g none)∧af (Below w0.heap.size w0 w'))
 case atStart=>exact ⟨(1),(t107),(t108),(mz),(.slice xK mz.length x_),rs,H',⟨Nat.le_refl _⟩,⟨aS (fh.z)⟩,⟨bk⟩,⟨bk⟩,⟨aA ah.z⟩,⟨aK HK.z⟩,⟨aG (ag.ge ah.z) HB.z⟩⟩
 case round =>
  clear H'
  obtain ⟨jL,kO,at1,rP,u106001,rfl,HA,as3,bY,aa,cB,ah,HK,HB⟩:=hrel
  cases gk with
  | zero=>exact absurd HA.z (by simp [dc.l0])
  | succ k1 =>
   have H:=HA.z
   clear HA
   simp only [dc.l0] at H
   have BQ:=k0 H
   clear H
   go_upto_region 4 with (fail)
   go_cut [32] (fun Rv wc=>∃ (kq:Nat) (LL:Bool),Rv=.bool LL∧af (dc.j1 kq a1 a2 (decide (t106 > 0)) jL LL asZ kO at1 a1 rP=some (r1,r2,r3,r4))∧af (kq≤k1)∧af (Kd.S (Kd.slice 2 (Kd.int .i64)) 29 wc w.heap.size (fun _=>True) u106001 rP)∧af (wc.heap[ay]?=some (.cells #[.int .i64 0,(.slice none 0 0)] 26 (0,0)))∧af (wc.heap[Cq]?=some (.cells #[.int .i64 a1,u106001] 26 (0,0)))∧af (ag w0 wc g asZ kO at1)∧af (bx w wc g none)∧af (Below w0.heap.size w0 wc))
   case first =>
    have H:=BQ.z
    clear BQ
    replace H:=iC H;obtain ⟨qG,H⟩|⟨qG,H⟩:=H
    case inl =>
     (first|rw [qG]|(simp only [bp,bH];rw [qG])|skip)
     have H':=k0 H
     clear H
     go_wp2
     go_meet
     case rel=>exact ⟨_,(false),rs,H',⟨by have:=as3.z;first|omega|exact Nat.le_refl _⟩,⟨aS (bY.z)⟩,⟨bk⟩,⟨bk⟩,⟨aA ah.z⟩,⟨aK HK.z⟩,⟨aG (ag.ge ah.z) HB.z⟩⟩
    (first|rw [qG]|(simp only [bp,bH];rw [qG])|skip)
    by_cases c16:(decide (t106 > 0))=true
    case neg =>
     rw [if_neg c16] at H
     have auo:(decide (t106 > 0))=false:=by simpa using c16
     clear c16
     have H':=k0 H
     clear H
     go_wp2
     go_meet
     case rel=>exact ⟨_,(false),rs,H',⟨by have:=as3.z;first|omega|exact Nat.le_refl _⟩,⟨aS (bY.z)⟩,⟨bk⟩,⟨bk⟩,⟨aA ah.z⟩,⟨aK HK.z⟩,⟨aG (ag.ge ah.z) HB.z⟩⟩
    rw [if_pos c16] at H
    have auo:(decide (t106 > 0))=true:=c16
    clear c16
    have H':=k0 H
    clear H
    obtain ⟨_,_⟩:=nE auG
    obtain ⟨_,_⟩:=nE lT
    obtain ⟨_,_,_,_⟩:=as9 cB
    obtain ⟨zR,au7,rfl⟩:=Kd.er bY.z
    go_wp2
    go_meet
    case rel=>exact ⟨_,(decide ((rP.length:Int) < a2)),rs,H',⟨by have:=as3.z;first|omega|exact Nat.le_refl _⟩,⟨aS (bY.z)⟩,⟨bk⟩,⟨bk⟩,⟨aA ah.z⟩,⟨aK HK.z⟩,⟨aG (ag.ge ah.z) HB.z⟩⟩
   case rest =>
    clear BQ
    obtain ⟨kq,LL,rfl,HA,aut,bY,aa,cB,ah,HK,HB⟩:=hcut
    cases kq with
    | zero=>exact absurd HA.z (by simp [dc.j1])
    | succ wV =>
     have H:=HA.z
     clear HA
     simp only [dc.j1] at H
     cases LL
     case false =>
      replace H:=iF H
      replace H:=bS H;obtain ⟨⟨t127,t128,t129⟩,A49,H⟩:=H
      dsimp only at H
      have H':=k0 H
      clear H
      go_wp2_with (first|(refine aT (f:=49) rfl ?_;refine gC (some 60) Try.func49 #[.pointer (some ⟨g,0,none⟩),.int .i64 (wrap64 (a2+1))] ?_;(with_reducible refine (cw.calls g asZ kO at1 (wrap64 (a2+1)) t127 t128 t129 w0 _ ?av ?ax A49.z).mono ?_);(case av=>exact aA ah.z);(case ax=>exact aG (ag.ge ah.z) HB.z);rintro e RF ⟨rfl,hi,hb,hk⟩;refine ⟨_,rfl,?_⟩;replace bY:=k0 (Kd.bQ (Kd.qz (ag.p6 (show ag w0 _ g asZ kO at1 from aA ah.z) (aS bY.z) (by decide)) hk (fun _ h=>h.2)) (fun _ h=>h.1));replace aa:=kK hk aa cy;replace cB:=kK hk cB lT;replace HK:=atm HK hk;replace HB:=k0 hb;replace ah:=k0 hi))
      go_loopg [11] wV (fun kq v11 w'=>∃ (gA:Int) (xq:Int) (xu:Int) (nQ:List (List Int)) (u106001:Value),v11=.int .i64 gA∧af (dc.l1 kq a1 a2 gA asZ xq xu a1 nQ=some (r1,r2,r3,r4))∧af (kq≤wV)∧af (Kd.S (Kd.slice 2 (Kd.int .i64)) 29 w' w.heap.size (fun _=>True) u106001 nQ)∧af (w'.heap[ay]?=some (.cells #[.int .i64 0,(.slice none 0 0)] 26 (0,0)))∧af (w'.heap[Cq]?=some (.cells #[.int .i64 a1,u106001] 26 (0,0)))∧af (ag w0 w' g asZ xq xu)∧af (bx w w' g none)∧af (Below w0.heap.size w0 w'))
      case atStart=>exact ⟨(t127),(t128),(t129),(rP),(u106001),rs,H',⟨Nat.le_refl _⟩,⟨aS (bY.z)⟩,⟨bk⟩,⟨bk⟩,⟨aA ah.z⟩,⟨aK HK.z⟩,⟨aG (ag.ge ah.z) HB.z⟩⟩
      case round =>
       clear H'
       obtain ⟨gA,xq,xu,nQ,u106001,rfl,HA,cS,bY,aa,cB,ah,HK,HB⟩:=hrel
       cases gk with
       | zero=>exact absurd HA.z (by simp [dc.l1])
       | succ k3 =>
        have H:=HA.z
        clear HA
        simp only [dc.l1] at H
        have Mn:=k0 H
        clear H
        go_upto_region 11 with (fail)
        go_cut [69] (fun v69 wc=>∃ (kq:Nat) (LM:Bool),v69=.bool LM∧af (dc.j3 kq a1 a2 gA LM asZ xq xu a1 nQ=some (r1,r2,r3,r4))∧af (kq≤k3)∧af (Kd.S (Kd.slice 2 (Kd.int .i64)) 29 wc w.heap.size (fun _=>True) u106001 nQ)∧af (wc.heap[ay]?=some (.cells #[.int .i64 0,(.slice none 0 0)] 26 (0,0)))∧af (wc.heap[Cq]?=some (.cells #[.int .i64 a1,u106001] 26 (0,0)))∧af (ag w0 wc g asZ xq xu)∧af (bx w wc g none)∧af (Below w0.heap.size w0 wc))
        case first =>
         have H:=Mn.z
         clear Mn
         replace H:=iC H;obtain ⟨rz,H⟩|⟨rz,H⟩:=H
         case inl =>
          (first|rw [rz]|(simp only [bp,bH];rw [rz])|skip)
          have H':=k0 H
          clear H
          go_wp2
          go_meet
          case rel=>exact ⟨_,(false),rs,H',⟨by have:=as3.z;have:=aut.out;have:=cS.z;first|omega|exact Nat.le_refl _⟩,⟨aS (bY.z)⟩,⟨bk⟩,⟨bk⟩,⟨aA ah.z⟩,⟨aK HK.z⟩,⟨aG (ag.ge ah.z) HB.z⟩⟩
         (first|rw [rz]|(simp only [bp,bH];rw [rz])|skip)
         have H':=k0 H
         clear H
         obtain ⟨_,_⟩:=nE auG
         obtain ⟨_,_⟩:=nE lT
         obtain ⟨_,_,_,_⟩:=as9 cB
         obtain ⟨amc,aoS,rfl⟩:=Kd.er bY.z
         go_wp2
         go_meet
         case rel=>exact ⟨_,(decide ((nQ.length:Int) < a2)),rs,H',⟨by have:=as3.z;have:=aut.out;have:=cS.z;first|omega|exact Nat.le_refl _⟩,⟨aS (bY.z)⟩,⟨bk⟩,⟨bk⟩,⟨aA ah.z⟩,⟨aK HK.z⟩,⟨aG (ag.ge ah.z) HB.z⟩⟩
        case rest =>
         clear Mn
         obtain ⟨kq,LM,rfl,HA,DL,bY,aa,cB,ah,HK,HB⟩:=hcut
         cases kq with
         | zero=>exact absurd HA.z (by simp [dc.j3])
         | succ ze =>
          have H:=HA.z
          clear HA
          simp only [dc.j3] at H
          cases LM
          case false =>
           replace H:=iF H
           simp only [Option.some.injEq,Prod.mk.injEq] at H
           obtain ⟨rfl,rfl,rfl,rfl⟩:=H
           obtain ⟨_,_⟩:=nE auG
           obtain ⟨_,_⟩:=nE lT
           obtain ⟨_,_,_,_⟩:=as9 cB
           obtain ⟨_,_⟩:=nE cy
           obtain ⟨_,_,_,_⟩:=as9 aa
           obtain ⟨R5,UP,rfl⟩:=Kd.er bY.z
           go_wp2
           refine bodyPost_ret (results_cell_row rfl _ _ ay 26 #[.int .i64 a1,.slice R5 nQ.length UP] (0,0) _ rfl kZ Try.underlying26 rfl (by kernel_rfl)) rfl ?_
           exact ⟨_,eR,aS (Kd.bQ (gS 1 (.slice R5 nQ.length UP) (gS 0 (.int .i64 a1) (tS bY aa))) (fun _ hk=>trivial)),aA ah.z,aG (ag.ge ah.z) HB.z,aK HK.z⟩
          replace H:=iT H
          replace H:=bS H;obtain ⟨⟨t130,t131,t132⟩,BB,H⟩:=H
          dsimp only at H
          replace H:=bS H;obtain ⟨⟨t133,t134,t135⟩,Fs,H⟩:=H
          dsimp only at H
          replace H:=iE H;obtain ⟨c60,Gd,JT,H⟩|⟨Gd,JT,H⟩:=H
          case inl =>
           obtain ⟨IU,Nv⟩:=nY (([t130,t133]:List Int):List Int)
           replace H:(if nQ.length < 5864062014805 then (dc.l1 ze a1 a2 (wrap64 (gA - 1)) asZ t134 t135 a1 (nQ ++ [IU])) else (none))=some (r1,r2,r3,r4):=rH Nv.z H
           replace H:=iS H;obtain ⟨c90,H⟩:=H
           have Nk:=k0 c90
           clear c90
           obtain ⟨Dm,FU⟩:=nY (nQ ++ [IU]:List (List Int))
           replace H:(dc.l1 ze a1 a2 (wrap64 (gA - 1)) asZ t134 t135 a1 Dm)=some (r1,r2,r3,r4):=rH FU.z H
           have H':=k0 H
           clear H
           go_wp2_with (first|(refine aT (f:=49) rfl ?_;refine gC (some 74) Try.func49 #[.pointer (some ⟨g,0,none⟩),.int .i64 a1] ?_;(with_reducible refine (cw.calls g asZ xq xu a1 t130 t131 t132 w0 _ ?av ?ax BB.z).mono ?_);(case av=>exact aA ah.z);(case ax=>exact aG (ag.ge ah.z) HB.z);rintro e w91 ⟨rfl,hi,hb,hk⟩;refine ⟨_,rfl,?_⟩;replace bY:=k0 (Kd.bQ (Kd.qz (ag.p6 (show ag w0 _ g asZ xq xu from aA ah.z) (aS bY.z) (by decide)) hk (fun _ h=>h.2)) (fun _ h=>h.1));replace aa:=kK hk aa cy;replace cB:=kK hk cB lT;replace HK:=atm HK hk;replace HB:=k0 hb;replace ah:=k0 hi)|(refine aT (f:=49) rfl ?_;refine gC (some 77) Try.func49 #[.pointer (some ⟨g,0,none⟩),.int .i64 a1] ?_;(with_reducible refine (cw.calls g asZ t131 t132 a1 t133 t134 t135 w0 _ ?av ?ax Fs.z).mono ?_);(case av=>exact aA ah.z);(case ax=>exact aG (ag.ge ah.z) HB.z);rintro e w92 ⟨rfl,hi,hb,hk⟩;refine ⟨_,rfl,?_⟩;replace bY:=k0 (Kd.bQ (Kd.qz (ag.p6 (show ag w0 _ g asZ t131 t132 from aA ah.z) (aS bY.z) (by decide)) hk (fun _ h=>h.2)) (fun _ h=>h.1));replace aa:=kK hk aa cy;replace cB:=kK hk cB lT;replace HK:=atm HK hk;replace HB:=k0 hb;replace ah:=k0 hi;obtain ⟨_,_⟩:=nE auG;obtain ⟨_,_⟩:=nE lT;obtain ⟨_,_,_,_⟩:=as9 cB)|(refine aX (N:=94) rfl ?_;(try (refine at2 (by rfl) ?_;dsimp only));refine jM 2 (N:=94) (xs:=([t130,t133]:List Int)) (inner:=[.int .i64 t130,.int .i64 t133]) (aJ.one (show Kd.M (Kd.int .i64) _ _ _ t130 [.int .i64 t130] from rfl) (aJ.one (show Kd.M (Kd.int .i64) _ _ _ t133 [.int .i64 t133] from rfl) (aJ.none _ _))) ?_;intro Zv w96 EN hb bR atf;clear bR atf;(first|rw [← Nv.z] at EN|(simp only [Int.reduceToNat] at EN;rw [← Nv.z] at EN));replace bY:=kg bY (Kd.bh EN) hb;have Jm:=k0 (Kd.cg EN (b_ (aK HK.z)));replace aa:=kB aa hb;replace cB:=kB cB hb;replace HK:=eC HK hb;replace HB:=k0 (cu (aG (ag.ge ah.z) HB.z) hb);replace ah:=k0 (ag.below (aA ah.z) hb);clear hb EN;obtain ⟨Fw,Gm,rfl⟩:=Kd.b9 Jm.z)|((with_reducible refine ji (b:=.append) (xs:=#[.tmp 91,.tmp 95]) rfl ?_);(try (refine at2 (by rfl) ?_;dsimp only));at_builtin;refine Kd.uv (Kd.slice 2 (Kd.int .i64)) w.heap.size rfl (.tmp 91) (.tmp 95) 24 29 (.slice none 0 0) 24 rfl Try.underlying24 sB rfl (by decide) (by omega) u106001 nQ IU [.slice Fw IU.length Gm] (fun _=>True) (fun k_=>some k_=(.slice Fw IU.length Gm:Value).ownBlock) rfl rfl ?aP (fun k_ aU=>((Kd.aH (ok':=fun k_=>((fun _=>True)) k_∧some k_ ≠ (u106001:Value).ownBlock) (Kd.iZ (Jm.z) (Kd.atC bY.z) (by decide)) (fun k_ hk=>⟨trivial,hk.2⟩))).1 k_ aU.symm) ?aF ?aO (Below.refl _ _) ?aS ?aL ?_;(case aP=>exact Kd.ke (Kd.aH (Kd.om rfl (Kd.aH (ok':=fun k_=>((fun _=>True)) k_∧some k_ ≠ (u106001:Value).ownBlock) (Kd.iZ (Jm.z) (Kd.atC bY.z) (by decide)) (fun k_ hk=>⟨trivial,hk.2⟩))) (fun _ h_=>h_)));(case aF=>exact (fun _ _=>trivial));(case aO=>exact (aS (Kd.bQ bY.z (fun k_ hk=>⟨trivial,fun e_=>hk.2 e_⟩))));(case aS=>exact (b_ (aK HK.z)));(case aL=>have:=Nk.out;omega);intro ash w98 ho hb hg a_;rw [← FU.z] at ho;replace aa:=k0 (fL (aB aa.z) hg (Kd.mX bY.z aa.z (by decide)));replace cB:=k0 (fL (aB cB.z) hg (Kd.mX bY.z cB.z (by decide)));replace HB:=k0 (qC (aG (ag.ge ah.z) HB.z) HL.z hb);replace ah:=k0 (ag.grown (aA ah.z) hg (ag.CZ ah.z bY.z (by decide)));replace HK:=k0 (bx.trans (aK HK.z) (bx.auk hg g) (Kd.avn bY.z));have SM:=k0 ho;clear bY Jm;clear ho hb hg a_;obtain ⟨R3,UN,rfl⟩:=Kd.er SM.z;obtain ⟨_,_,_,_⟩:=as9 cB))
           go_roundg ze
           case measure=>have:=as3.z;have:=aut.out;have:=cS.z;have:=DL.out;omega
           case rel=>exact ⟨(wrap64 (gA - 1)),(t134),(t135),(Dm),(.slice R3 Dm.length UN),rs,H',⟨by have:=as3.z;have:=aut.out;have:=cS.z;have:=DL.out;omega⟩,⟨aS (Kd.bQ (gS 1 (.slice R3 Dm.length UN) (tS SM cB)) (fun _ hk=>trivial))⟩,⟨kZ⟩,⟨kZ⟩,⟨aA ah.z⟩,⟨aK HK.z⟩,⟨aG (ag.ge ah.z) HB.z⟩⟩
          replace H:=bS H;obtain ⟨⟨t136,t137,t138⟩,I3,H⟩:=H
          dsimp only at H
          replace H:=iC H;obtain ⟨aep,H⟩|⟨aep,H⟩:=H
          case inl =>
           obtain ⟨IQ,Nu⟩:=nY (([t130,t133]:List Int):List Int)
           replace H:(if nQ.length < 5864062014805 then (dc.l1 ze a1 a2 (wrap64 (gA - 1)) asZ t137 t138 a1 (nQ ++ [IQ])) else (none))=some (r1,r2,r3,r4):=rH Nu.z H
           replace H:=iS H;obtain ⟨c77,H⟩:=H
           have ab9:=k0 c77
           clear c77
           obtain ⟨LS,Tw⟩:=nY (nQ ++ [IQ]:List (List Int))
           replace H:(dc.l1 ze a1 a2 (wrap64 (gA - 1)) asZ t137 t138 a1 LS)=some (r1,r2,r3,r4):=rH Tw.z H
           have H':=k0 H
           clear H
           go_wp2_with (first|(refine aT (f:=49) rfl ?_;refine gC (some 74) Try.func49 #[.pointer (some ⟨g,0,none⟩),.int .i64 a1] ?_;(with_reducible refine (cw.calls g asZ xq xu a1 t130 t131 t132 w0 _ ?av ?ax BB.z).mono ?_);(case av=>exact aA ah.z);(case ax=>exact aG (ag.ge ah.z) HB.z);rintro e w78 ⟨rfl,hi,hb,hk⟩;refine ⟨_,rfl,?_⟩;replace bY:=k0 (Kd.bQ (Kd.qz (ag.p6 (show ag w0 _ g asZ xq xu from aA ah.z) (aS bY.z) (by decide)) hk (fun _ h=>h.2)) (fun _ h=>h.1));replace aa:=kK hk aa cy;replace cB:=kK hk cB lT;replace HK:=atm HK hk;replace HB:=k0 hb;replace ah:=k0 hi)|(refine aT (f:=49) rfl ?_;refine gC (some 77) Try.func49 #[.pointer (some ⟨g,0,none⟩),.int .i64 a1] ?_;(with_reducible refine (cw.calls g asZ t131 t132 a1 t133 t134 t135 w0 _ ?av ?ax Fs.z).mono ?_);(case av=>exact aA ah.z);(case ax=>exact aG (ag.ge ah.z) HB.z);rintro e w79 ⟨rfl,hi,hb,hk⟩;refine ⟨_,rfl,?_⟩;replace bY:=k0 (Kd.bQ (Kd.qz (ag.p6 (show ag w0 _ g asZ t131 t132 from aA ah.z) (aS bY.z) (by decide)) hk (fun _ h=>h.2)) (fun _ h=>h.1));replace aa:=kK hk aa cy;replace cB:=kK hk cB lT;replace HK:=atm HK hk;replace HB:=k0 hb;replace ah:=k0 hi)|(go_at_call 49;(with_reducible refine (cw.calls g asZ t134 t135 3 t136 t137 t138 w0 _ ?av ?ax I3.z).mono ?_);(case av=>exact aA ah.z);(case ax=>exact aG (ag.ge ah.z) HB.z);rintro e w80 ⟨rfl,hi,hb,hk⟩;replace bY:=k0 (Kd.bQ (Kd.qz (ag.p6 (show ag w0 _ g asZ t134 t135 from aA ah.z) (aS bY.z) (by decide)) hk (fun _ h=>h.2)) (fun _ h=>h.1));replace aa:=kK hk aa cy;replace cB:=kK hk cB lT;replace HK:=atm HK hk;replace HB:=k0 hb;replace ah:=k0 hi;obtain ⟨_,_⟩:=nE auG;obtain ⟨_,_⟩:=nE lT;obtain ⟨_,_,_,_⟩:=as9 cB)|(refine aX (N:=94) rfl ?_;(try (refine at2 (by rfl) ?_;dsimp only));refine jM 2 (N:=94) (xs:=([t130,t133]:List Int)) (inner:=[.int .i64 t130,.int .i64 t133]) (aJ.one (show Kd.M (Kd.int .i64) _ _ _ t130 [.int .i64 t130] from rfl) (aJ.one (show Kd.M (Kd.int .i64) _ _ _ t133 [.int .i64 t133] from rfl) (aJ.none _ _))) ?_;intro ase w84 EL hb bR atf;clear bR atf;(first|rw [← Nu.z] at EL|(simp only [Int.reduceToNat] at EL;rw [← Nu.z] at EL));replace bY:=kg bY (Kd.bh EL) hb;have Jl:=k0 (Kd.cg EL (b_ (aK HK.z)));replace aa:=kB aa hb;replace cB:=kB cB hb;replace HK:=eC HK hb;replace HB:=k0 (cu (aG (ag.ge ah.z) HB.z) hb);replace ah:=k0 (ag.below (aA ah.z) hb);clear hb EL;obtain ⟨vu,vX,rfl⟩:=Kd.b9 Jl.z)|((with_reducible refine ji (b:=.append) (xs:=#[.tmp 91,.tmp 95]) rfl ?_);(try (refine at2 (by rfl) ?_;dsimp only));at_builtin;refine Kd.uv (Kd.slice 2 (Kd.int .i64)) w.heap.size rfl (.tmp 91) (.tmp 95) 24 29 (.slice none 0 0) 24 rfl Try.underlying24 sB rfl (by decide) (by omega) u106001 nQ IQ [.slice vu IQ.length vX] (fun _=>True) (fun k_=>some k_=(.slice vu IQ.length vX:Value).ownBlock) rfl rfl ?aP (fun k_ aU=>((Kd.aH (ok':=fun k_=>((fun _=>True)) k_∧some k_ ≠ (u106001:Value).ownBlock) (Kd.iZ (Jl.z) (Kd.atC bY.z) (by decide)) (fun k_ hk=>⟨trivial,hk.2⟩))).1 k_ aU.symm) ?aF ?aO (Below.refl _ _) ?aS ?aL ?_;(case aP=>exact Kd.ke (Kd.aH (Kd.om rfl (Kd.aH (ok':=fun k_=>((fun _=>True)) k_∧some k_ ≠ (u106001:Value).ownBlock) (Kd.iZ (Jl.z) (Kd.atC bY.z) (by decide)) (fun k_ hk=>⟨trivial,hk.2⟩))) (fun _ h_=>h_)));(case aF=>exact (fun _ _=>trivial));(case aO=>exact (aS (Kd.bQ bY.z (fun k_ hk=>⟨trivial,fun e_=>hk.2 e_⟩))));(case aS=>exact (b_ (aK HK.z)));(case aL=>have:=ab9.out;omega);intro asf w86 ho hb hg a_;rw [← Tw.z] at ho;replace aa:=k0 (fL (aB aa.z) hg (Kd.mX bY.z aa.z (by decide)));replace cB:=k0 (fL (aB cB.z) hg (Kd.mX bY.z cB.z (by decide)));replace HB:=k0 (qC (aG (ag.ge ah.z) HB.z) HL.z hb);replace ah:=k0 (ag.grown (aA ah.z) hg (ag.CZ ah.z bY.z (by decide)));replace HK:=k0 (bx.trans (aK HK.z) (bx.auk hg g) (Kd.avn bY.z));have SL:=k0 ho;clear bY Jl;clear ho hb hg a_;obtain ⟨Fv,Ez,rfl⟩:=Kd.er SL.z;obtain ⟨_,_,_,_⟩:=as9 cB))
           go_roundg ze
           case measure=>have:=as3.z;have:=aut.out;have:=cS.z;have:=DL.out;omega
           case rel=>exact ⟨(wrap64 (gA - 1)),(t137),(t138),(LS),(.slice Fv LS.length Ez),rs,H',⟨by have:=as3.z;have:=aut.out;have:=cS.z;have:=DL.out;omega⟩,⟨aS (Kd.bQ (gS 1 (.slice Fv LS.length Ez) (tS SL cB)) (fun _ hk=>trivial))⟩,⟨kZ⟩,⟨kZ⟩,⟨aA ah.z⟩,⟨aK HK.z⟩,⟨aG (ag.ge ah.z) HB.z⟩⟩
          by_cases c63:a1=0
          case neg =>
           rw [if_neg c63] at H
           have aeq:=beq_eq_false_iff_ne.mpr c63
           have anL:=bne_iff_ne.mpr c63
           obtain ⟨Bx,D7⟩:=nY (([t130,Int.tmod (wrap64 (t130+1)) a1]:List Int):List Int)
           replace H:(if nQ.length < 5864062014805 then (dc.l1 ze a1 a2 (wrap64 (gA - 1)) asZ t137 t138 a1 (nQ ++ [Bx])) else (none))=some (r1,r2,r3,r4):=rH D7.z H
           replace H:=iS H;obtain ⟨c64,H⟩:=H
           have ab6:=k0 c64
           clear c64
           obtain ⟨LR,Tt⟩:=nY (nQ ++ [Bx]:List (List Int))
           replace H:(dc.l1 ze a1 a2 (wrap64 (gA - 1)) asZ t137 t138 a1 LR)=some (r1,r2,r3,r4):=rH Tt.z H
           have H':=k0 H
           clear H
           go_wp2_with (first|(refine aT (f:=49) rfl ?_;refine gC (some 74) Try.func49 #[.pointer (some ⟨g,0,none⟩),.int .i64 a1] ?_;(with_reducible refine (cw.calls g asZ xq xu a1 t130 t131 t132 w0 _ ?av ?ax BB.z).mono ?_);(case av=>exact aA ah.z);(case ax=>exact aG (ag.ge ah.z) HB.z);rintro e w65 ⟨rfl,hi,hb,hk⟩;refine ⟨_,rfl,?_⟩;replace bY:=k0 (Kd.bQ (Kd.qz (ag.p6 (show ag w0 _ g asZ xq xu from aA ah.z) (aS bY.z) (by decide)) hk (fun _ h=>h.2)) (fun _ h=>h.1));replace aa:=kK hk aa cy;replace cB:=kK hk cB lT;replace HK:=atm HK hk;replace HB:=k0 hb;replace ah:=k0 hi)|(refine aT (f:=49) rfl ?_;refine gC (some 77) Try.func49 #[.pointer (some ⟨g,0,none⟩),.int .i64 a1] ?_;(with_reducible refine (cw.calls g asZ t131 t132 a1 t133 t134 t135 w0 _ ?av ?ax Fs.z).mono ?_);(case av=>exact aA ah.z);(case ax=>exact aG (ag.ge ah.z) HB.z);rintro e w66 ⟨rfl,hi,hb,hk⟩;refine ⟨_,rfl,?_⟩;replace bY:=k0 (Kd.bQ (Kd.qz (ag.p6 (show ag w0 _ g asZ t131 t132 from aA ah.z) (aS bY.z) (by decide)) hk (fun _ h=>h.2)) (fun _ h=>h.1));replace aa:=kK hk aa cy;replace cB:=kK hk cB lT;replace HK:=atm HK hk;replace HB:=k0 hb;replace ah:=k0 hi)|(go_at_call 49;(with_reducible refine (cw.calls g asZ t134 t135 3 t136 t137 t138 w0 _ ?av ?ax I3.z).mono ?_);(case av=>exact aA ah.z);(case ax=>exact aG (ag.ge ah.z) HB.z);rintro e w67 ⟨rfl,hi,hb,hk⟩;replace bY:=k0 (Kd.bQ (Kd.qz (ag.p6 (show ag w0 _ g asZ t134 t135 from aA ah.z) (aS bY.z) (by decide)) hk (fun _ h=>h.2)) (fun _ h=>h.1));replace aa:=kK hk aa cy;replace cB:=kK hk cB lT;replace HK:=atm HK hk;replace HB:=k0 hb;replace ah:=k0 hi;obtain ⟨_,_⟩:=nE auG;obtain ⟨_,_⟩:=nE lT;obtain ⟨_,_,_,_⟩:=as9 cB)|(refine aX (N:=94) rfl ?_;(try (refine at2 (by rfl) ?_;dsimp only));refine jM 2 (N:=94) (xs:=([t130,Int.tmod (wrap64 (t130+1)) a1]:List Int)) (inner:=[.int .i64 t130,.int .i64 (Int.tmod (wrap64 (t130+1)) a1)]) (aJ.one (show Kd.M (Kd.int .i64) _ _ _ t130 [.int .i64 t130] from rfl) (aJ.one (show Kd.M (Kd.int .i64) _ _ _ (Int.tmod (wrap64 (t130+1)) a1) [.int .i64 (Int.tmod (wrap64 (t130+1)) a1)] from rfl) (aJ.none _ _))) ?_;intro asb w71 EK hb bR atf;clear bR atf;(first|rw [← D7.z] at EK|(simp only [Int.reduceToNat] at EK;rw [← D7.z] at EK));replace bY:=kg bY (Kd.bh EK) hb;have Jk:=k0 (Kd.cg EK (b_ (aK HK.z)));replace aa:=kB aa hb;replace cB:=kB cB hb;replace HK:=eC HK hb;replace HB:=k0 (cu (aG (ag.ge ah.z) HB.z) hb);replace ah:=k0 (ag.below (aA ah.z) hb);clear hb EK;obtain ⟨Sa,UT,rfl⟩:=Kd.b9 Jk.z)|((with_reducible refine ji (b:=.append) (xs:=#[.tmp 91,.tmp 95]) rfl ?_);(try (refine at2 (by rfl) ?_;dsimp only));at_builtin;refine Kd.uv (Kd.slice 2 (Kd.int .i64)) w.heap.size rfl (.tmp 91) (.tmp 95) 24 29 (.slice none 0 0) 24 rfl Try.underlying24 sB rfl (by decide) (by omega) u106001 nQ Bx [.slice Sa Bx.length UT] (fun _=>True) (fun k_=>some k_=(.slice Sa Bx.length UT:Value).ownBlock) rfl rfl ?aP (fun k_ aU=>((Kd.aH (ok':=fun k_=>((fun _=>True)) k_∧some k_ ≠ (u106001:Value).ownBlock) (Kd.iZ (Jk.z) (Kd.atC bY.z) (by decide)) (fun k_ hk=>⟨trivial,hk.2⟩))).1 k_ aU.symm) ?aF ?aO (Below.refl _ _) ?aS ?aL ?_;(case aP=>exact Kd.ke (Kd.aH (Kd.om rfl (Kd.aH (ok':=fun k_=>((fun _=>True)) k_∧some k_ ≠ (u106001:Value).ownBlock) (Kd.iZ (Jk.z) (Kd.atC bY.z) (by decide)) (fun k_ hk=>⟨trivial,hk.2⟩))) (fun _ h_=>h_)));(case aF=>exact (fun _ _=>trivial));(case aO=>exact (aS (Kd.bQ bY.z (fun k_ hk=>⟨trivial,fun e_=>hk.2 e_⟩))));(case aS=>exact (b_ (aK HK.z)));(case aL=>have:=ab6.out;omega);intro asc RI ho hb hg a_;rw [← Tt.z] at ho;replace aa:=k0 (fL (aB aa.z) hg (Kd.mX bY.z aa.z (by decide)));replace cB:=k0 (fL (aB cB.z) hg (Kd.mX bY.z cB.z (by decide)));replace HB:=k0 (qC (aG (ag.ge ah.z) HB.z) HL.z hb);replace ah:=k0 (ag.grown (aA ah.z) hg (ag.CZ ah.z bY.z (by decide)));replace HK:=k0 (bx.trans (aK HK.z) (bx.auk hg g) (Kd.avn bY.z));have SK:=k0 ho;clear bY Jk;clear ho hb hg a_;obtain ⟨Dy,Ey,rfl⟩:=Kd.er SK.z;obtain ⟨_,_,_,_⟩:=as9 cB))
           go_roundg ze
           case measure=>have:=as3.z;have:=aut.out;have:=cS.z;have:=DL.out;omega
           case rel=>exact ⟨(wrap64 (gA - 1)),(t137),(t138),(LR),(.slice Dy LR.length Ey),rs,H',⟨by have:=as3.z;have:=aut.out;have:=cS.z;have:=DL.out;omega⟩,⟨aS (Kd.bQ (gS 1 (.slice Dy LR.length Ey) (tS SK cB)) (fun _ hk=>trivial))⟩,⟨kZ⟩,⟨kZ⟩,⟨aA ah.z⟩,⟨aK HK.z⟩,⟨aG (ag.ge ah.z) HB.z⟩⟩
          rw [if_pos c63] at H
          exact absurd H (by simp)
     replace H:=iT H
     replace H:=bS H;obtain ⟨⟨t109,t110,t111⟩,Dq,H⟩:=H
     dsimp only at H
     replace H:=bS H;obtain ⟨⟨t112,t113,t114⟩,zO,H⟩:=H
     dsimp only at H
     replace H:=iE H;obtain ⟨c24,Aq,NZ,H⟩|⟨Aq,NZ,H⟩:=H
     case inl =>
      obtain ⟨qY,rW⟩:=nY (([t109,jL]:List Int):List Int)
      replace H:(if rP.length < 5864062014805 then (dc.l0 wV a1 a2 (decide (t106 > 0)) (wrap64 (jL+1)) asZ t113 t114 a1 (rP ++ [qY])) else (none))=some (r1,r2,r3,r4):=rH rW.z H
      replace H:=iS H;obtain ⟨c37,H⟩:=H
      have ab2:=k0 c37
      clear c37
      obtain ⟨Dl,FP⟩:=nY (rP ++ [qY]:List (List Int))
      replace H:(dc.l0 wV a1 a2 (decide (t106 > 0)) (wrap64 (jL+1)) asZ t113 t114 a1 Dl)=some (r1,r2,r3,r4):=rH FP.z H
      have H':=k0 H
      clear H
      go_wp2_with (first|(refine aT (f:=49) rfl ?_;refine gC (some 37) Try.func49 #[.pointer (some ⟨g,0,none⟩),.int .i64 jL] ?_;(with_reducible refine (cw.calls g asZ kO at1 jL t109 t110 t111 w0 _ ?av ?ax Dq.z).mono ?_);(case av=>exact aA ah.z);(case ax=>exact aG (ag.ge ah.z) HB.z);rintro e ZI ⟨rfl,hi,hb,hk⟩;refine ⟨_,rfl,?_⟩;replace bY:=k0 (Kd.bQ (Kd.qz (ag.p6 (show ag w0 _ g asZ kO at1 from aA ah.z) (aS bY.z) (by decide)) hk (fun _ h=>h.2)) (fun _ h=>h.1));replace aa:=kK hk aa cy;replace cB:=kK hk cB lT;replace HK:=atm HK hk;replace HB:=k0 hb;replace ah:=k0 hi)|(refine aT (f:=49) rfl ?_;refine gC (some 39) Try.func49 #[.pointer (some ⟨g,0,none⟩),.int .i64 2] ?_;(with_reducible refine (cw.calls g asZ t110 t111 2 t112 t113 t114 w0 _ ?av ?ax zO.z).mono ?_);(case av=>exact aA ah.z);(case ax=>exact aG (ag.ge ah.z) HB.z);rintro e Db ⟨rfl,hi,hb,hk⟩;refine ⟨_,rfl,?_⟩;replace bY:=k0 (Kd.bQ (Kd.qz (ag.p6 (show ag w0 _ g asZ t110 t111 from aA ah.z) (aS bY.z) (by decide)) hk (fun _ h=>h.2)) (fun _ h=>h.1));replace aa:=kK hk aa cy;replace cB:=kK hk cB lT;replace HK:=atm HK hk;replace HB:=k0 hb;replace ah:=k0 hi;obtain ⟨_,_⟩:=nE auG;obtain ⟨_,_⟩:=nE lT;obtain ⟨_,_,_,_⟩:=as9 cB)|(refine aX (N:=53) rfl ?_;(try (refine at2 (by rfl) ?_;dsimp only));refine jM 2 (N:=53) (xs:=([t109,jL]:List Int)) (inner:=[.int .i64 t109,.int .i64 jL]) (aJ.one (show Kd.M (Kd.int .i64) _ _ _ t109 [.int .i64 t109] from rfl) (aJ.one (show Kd.M (Kd.int .i64) _ _ _ jL [.int .i64 jL] from rfl) (aJ.none _ _))) ?_;intro Ls w43 EI hb bR atf;clear bR atf;(first|rw [← rW.z] at EI|(simp only [Int.reduceToNat] at EI;rw [← rW.z] at EI));replace bY:=kg bY (Kd.bh EI) hb;have iL:=k0 (Kd.cg EI (b_ (aK HK.z)));replace aa:=kB aa hb;replace cB:=kB cB hb;replace HK:=eC HK hb;replace HB:=k0 (cu (aG (ag.ge ah.z) HB.z) hb);replace ah:=k0 (ag.below (aA ah.z) hb);clear hb EI;obtain ⟨R_,JY,rfl⟩:=Kd.b9 iL.z)|((with_reducible refine ji (b:=.append) (xs:=#[.tmp 50,.tmp 54]) rfl ?_);(try (refine at2 (by rfl) ?_;dsimp only));at_builtin;refine Kd.uv (Kd.slice 2 (Kd.int .i64)) w.heap.size rfl (.tmp 50) (.tmp 54) 24 29 (.slice none 0 0) 24 rfl Try.underlying24 sB rfl (by decide) (by omega) u106001 rP qY [.slice R_ qY.length JY] (fun _=>True) (fun k_=>some k_=(.slice R_ qY.length JY:Value).ownBlock) rfl rfl ?aP (fun k_ aU=>((Kd.aH (ok':=fun k_=>((fun _=>True)) k_∧some k_ ≠ (u106001:Value).ownBlock) (Kd.iZ (iL.z) (Kd.atC bY.z) (by decide)) (fun k_ hk=>⟨trivial,hk.2⟩))).1 k_ aU.symm) ?aF ?aO (Below.refl _ _) ?aS ?aL ?_;(case aP=>exact Kd.ke (Kd.aH (Kd.om rfl (Kd.aH (ok':=fun k_=>((fun _=>True)) k_∧some k_ ≠ (u106001:Value).ownBlock) (Kd.iZ (iL.z) (Kd.atC bY.z) (by decide)) (fun k_ hk=>⟨trivial,hk.2⟩))) (fun _ h_=>h_)));(case aF=>exact (fun _ _=>trivial));(case aO=>exact (aS (Kd.bQ bY.z (fun k_ hk=>⟨trivial,fun e_=>hk.2 e_⟩))));(case aS=>exact (b_ (aK HK.z)));(case aL=>have:=ab2.out;omega);intro akS w45 ho hb hg a_;rw [← FP.z] at ho;replace aa:=k0 (fL (aB aa.z) hg (Kd.mX bY.z aa.z (by decide)));replace cB:=k0 (fL (aB cB.z) hg (Kd.mX bY.z cB.z (by decide)));replace HB:=k0 (qC (aG (ag.ge ah.z) HB.z) HL.z hb);replace ah:=k0 (ag.grown (aA ah.z) hg (ag.CZ ah.z bY.z (by decide)));replace HK:=k0 (bx.trans (aK HK.z) (bx.auk hg g) (Kd.avn bY.z));have Jh:=k0 ho;clear bY iL;clear ho hb hg a_;obtain ⟨Fu,Gk,rfl⟩:=Kd.er Jh.z;obtain ⟨_,_,_,_⟩:=as9 cB))
      go_roundg wV
      case measure=>have:=as3.z;have:=aut.out;omega
      case rel=>exact ⟨(wrap64 (jL+1)),(t113),(t114),(Dl),(.slice Fu Dl.length Gk),rs,H',⟨by have:=as3.z;have:=aut.out;omega⟩,⟨aS (Kd.bQ (gS 1 (.slice Fu Dl.length Gk) (tS Jh cB)) (fun _ hk=>trivial))⟩,⟨kZ⟩,⟨kZ⟩,⟨aA ah.z⟩,⟨aK HK.z⟩,⟨aG (ag.ge ah.z) HB.z⟩⟩
     obtain ⟨zL,D3⟩:=nY (([jL,t109]:List Int):List Int)
     replace H:(if rP.length < 5864062014805 then (dc.l0 wV a1 a2 (decide (t106 > 0)) (wrap64 (jL+1)) asZ t113 t114 a1 (rP ++ [zL])) else (none))=some (r1,r2,r3,r4):=rH D3.z H
     replace H:=iS H;obtain ⟨c25,H⟩:=H
     have ab0:=k0 c25
     clear c25
     obtain ⟨lq,og⟩:=nY (rP ++ [zL]:List (List Int))
     replace H:(dc.l0 wV a1 a2 (decide (t106 > 0)) (wrap64 (jL+1)) asZ t113 t114 a1 lq)=some (r1,r2,r3,r4):=rH og.z H
     have H':=k0 H
     clear H
     go_wp2_with (first|(refine aT (f:=49) rfl ?_;refine gC (some 37) Try.func49 #[.pointer (some ⟨g,0,none⟩),.int .i64 jL] ?_;(with_reducible refine (cw.calls g asZ kO at1 jL t109 t110 t111 w0 _ ?av ?ax Dq.z).mono ?_);(case av=>exact aA ah.z);(case ax=>exact aG (ag.ge ah.z) HB.z);rintro e Ff ⟨rfl,hi,hb,hk⟩;refine ⟨_,rfl,?_⟩;replace bY:=k0 (Kd.bQ (Kd.qz (ag.p6 (show ag w0 _ g asZ kO at1 from aA ah.z) (aS bY.z) (by decide)) hk (fun _ h=>h.2)) (fun _ h=>h.1));replace aa:=kK hk aa cy;replace cB:=kK hk cB lT;replace HK:=atm HK hk;replace HB:=k0 hb;replace ah:=k0 hi)|(refine aT (f:=49) rfl ?_;refine gC (some 39) Try.func49 #[.pointer (some ⟨g,0,none⟩),.int .i64 2] ?_;(with_reducible refine (cw.calls g asZ t110 t111 2 t112 t113 t114 w0 _ ?av ?ax zO.z).mono ?_);(case av=>exact aA ah.z);(case ax=>exact aG (ag.ge ah.z) HB.z);rintro e Da ⟨rfl,hi,hb,hk⟩;refine ⟨_,rfl,?_⟩;replace bY:=k0 (Kd.bQ (Kd.qz (ag.p6 (show ag w0 _ g asZ t110 t111 from aA ah.z) (aS bY.z) (by decide)) hk (fun _ h=>h.2)) (fun _ h=>h.1));replace aa:=kK hk aa cy;replace cB:=kK hk cB lT;replace HK:=atm HK hk;replace HB:=k0 hb;replace ah:=k0 hi;obtain ⟨_,_⟩:=nE auG;obtain ⟨_,_⟩:=nE lT;obtain ⟨_,_,_,_⟩:=as9 cB)|(refine aX (N:=45) rfl ?_;(try (refine at2 (by rfl) ?_;dsimp only));refine jM 2 (N:=45) (xs:=([jL,t109]:List Int)) (inner:=[.int .i64 jL,.int .i64 t109]) (aJ.one (show Kd.M (Kd.int .i64) _ _ _ jL [.int .i64 jL] from rfl) (aJ.one (show Kd.M (Kd.int .i64) _ _ _ t109 [.int .i64 t109] from rfl) (aJ.none _ _))) ?_;intro E_ Lx sw hb bR atf;clear bR atf;(first|rw [← D3.z] at sw|(simp only [Int.reduceToNat] at sw;rw [← D3.z] at sw));replace bY:=kg bY (Kd.bh sw) hb;have sU:=k0 (Kd.cg sw (b_ (aK HK.z)));replace aa:=kB aa hb;replace cB:=kB cB hb;replace HK:=eC HK hb;replace HB:=k0 (cu (aG (ag.ge ah.z) HB.z) hb);replace ah:=k0 (ag.below (aA ah.z) hb);clear hb sw;obtain ⟨Dt,Eu,rfl⟩:=Kd.b9 sU.z)|((with_reducible refine ji (b:=.append) (xs:=#[.tmp 42,.tmp 46]) rfl ?_);(try (refine at2 (by rfl) ?_;dsimp only));at_builtin;refine Kd.uv (Kd.slice 2 (Kd.int .i64)) w.heap.size rfl (.tmp 42) (.tmp 46) 24 29 (.slice none 0 0) 24 rfl Try.underlying24 sB rfl (by decide) (by omega) u106001 rP zL [.slice Dt zL.length Eu] (fun _=>True) (fun k_=>some k_=(.slice Dt zL.length Eu:Value).ownBlock) rfl rfl ?aP (fun k_ aU=>((Kd.aH (ok':=fun k_=>((fun _=>True)) k_∧some k_ ≠ (u106001:Value).ownBlock) (Kd.iZ (sU.z) (Kd.atC bY.z) (by decide)) (fun k_ hk=>⟨trivial,hk.2⟩))).1 k_ aU.symm) ?aF ?aO (Below.refl _ _) ?aS ?aL ?_;(case aP=>exact Kd.ke (Kd.aH (Kd.om rfl (Kd.aH (ok':=fun k_=>((fun _=>True)) k_∧some k_ ≠ (u106001:Value).ownBlock) (Kd.iZ (sU.z) (Kd.atC bY.z) (by decide)) (fun k_ hk=>⟨trivial,hk.2⟩))) (fun _ h_=>h_)));(case aF=>exact (fun _ _=>trivial));(case aO=>exact (aS (Kd.bQ bY.z (fun k_ hk=>⟨trivial,fun e_=>hk.2 e_⟩))));(case aS=>exact (b_ (aK HK.z)));(case aL=>have:=ab0.out;omega);intro tP xo ho hb hg a_;rw [← og.z] at ho;replace aa:=k0 (fL (aB aa.z) hg (Kd.mX bY.z aa.z (by decide)));replace cB:=k0 (fL (aB cB.z) hg (Kd.mX bY.z cB.z (by decide)));replace HB:=k0 (qC (aG (ag.ge ah.z) HB.z) HL.z hb);replace ah:=k0 (ag.grown (aA ah.z) hg (ag.CZ ah.z bY.z (by decide)));replace HK:=k0 (bx.trans (aK HK.z) (bx.auk hg g) (Kd.avn bY.z));have lS:=k0 ho;clear bY sU;clear ho hb hg a_;obtain ⟨xJ,tr,rfl⟩:=Kd.er lS.z;obtain ⟨_,_,_,_⟩:=as9 cB))
     go_roundg wV
     case measure=>have:=as3.z;have:=aut.out;omega
     case rel=>exact ⟨(wrap64 (jL+1)),(t113),(t114),(lq),(.slice xJ lq.length tr),rs,H',⟨by have:=as3.z;have:=aut.out;omega⟩,⟨aS (Kd.bQ (gS 1 (.slice xJ lq.length tr) (tS lS cB)) (fun _ hk=>trivial))⟩,⟨kZ⟩,⟨kZ⟩,⟨aA ah.z⟩,⟨aK HK.z⟩,⟨aG (ag.ge ah.z) HB.z⟩⟩
/-! ### F97: function 97 -/
def BM.f (k:Nat) (asZ:List Int) (bB:Int) (ate:Int):Option (Int × (List (List Int)) × Int × Int):=(cw.f asZ bB ate 4).bind fun eN=>(if eN.1=0 then ((BD.f).bind fun t105=>((cw.f asZ eN.2.1 eN.2.2 (t105.length:Int)).bind fun qD=>(if 0≤qD.1 then (if qD.1 < (t105.length:Int) then ((sN.f k (atF ByteArray.empty t105 qD.1)).bind fun s_=>(some (s_.1,s_.2.1,qD.2.1,qD.2.2))) else (none)) else (none)))) else ((cw.f asZ eN.2.1 eN.2.2 8).bind fun NN=>((gD.f asZ NN.2.1 NN.2.2 (([1,2,3,3,4,4,5,6,wrap64 (1+NN.1)]:List Int))).bind fun Ca=>((gD.f asZ Ca.2.1 Ca.2.2 (([2,4,6,6,8,10]:List Int))).bind fun gU=>((dc.f k asZ gU.2.1 gU.2.2 Ca.1 gU.1).bind fun mG=>(some (mG.1,mG.2.1,mG.2.2.1,mG.2.2.2)))))))
theorem BM.calls (k : Nat) (g : Nat) (asZ : List Int) (bB : Int) (ate : Int) (r1 : Int) (r2 : List (List Int)) (r3 : Int) (r4 : Int) (w0 w : World) (hI : ag w0 w g asZ bB ate) (hB : Below w0.heap.size w0 w) (h : BM.f k asZ bB ate = some (r1, r2, r3, r4)) :
  Calls Try.prog 97 #[.pointer (some ⟨g,0,none⟩)] w fun e w'=>∃ nP:Value,e=.returned (.agg #[.int .i64 r1,nP])∧Kd.S (Kd.slice 2 (Kd.int .i64)) 29 w' w.heap.size (fun _=>True) nP r2∧ag w0 w' g asZ r3 r4∧Below w0.heap.size w0 w'∧bx w w' g none:=by
 have gV:=Try.underlying26
 have ah:=k0 hI
 have HK:=k0 (bx.refl w g none)
 have HL:=k0 hB.size
 clear hI
 have jg:=k0 hB.size
 have HB:=k0 hB
 clear hB
 unfold BM.f at h
 have H:=h
 clear h
 replace H:=bS H;obtain ⟨⟨t102,t103,t104⟩,A2,H⟩:=H
 dsimp only at H
 replace H:=iE H;obtain ⟨c3,lC,vU,H⟩|⟨lC,vU,H⟩:=H
 case inl =>
  replace H:=bS H;obtain ⟨⟨t118,t119,t120⟩,Dq,H⟩:=H
  dsimp only at H
  obtain ⟨qY,rW⟩:=nY (([1,2,3,3,4,4,5,6,wrap64 (1+t118)]:List Int):List Int)
  replace H:((gD.f asZ t119 t120 qY).bind fun Ca=>((gD.f asZ Ca.2.1 Ca.2.2 (([2,4,6,6,8,10]:List Int))).bind fun gU=>((dc.f k asZ gU.2.1 gU.2.2 Ca.1 gU.1).bind fun mG=>(some (mG.1,mG.2.1,mG.2.2.1,mG.2.2.2)))))=some (r1,r2,r3,r4):=rH rW.z H
  replace H:=bS H;obtain ⟨⟨t124,t125,t126⟩,zO,H⟩:=H
  dsimp only at H
  obtain ⟨rR,D5⟩:=nY (([2,4,6,6,8,10]:List Int):List Int)
  replace H:((gD.f asZ t125 t126 rR).bind fun gU=>((dc.f k asZ gU.2.1 gU.2.2 t124 gU.1).bind fun mG=>(some (mG.1,mG.2.1,mG.2.2.1,mG.2.2.2))))=some (r1,r2,r3,r4):=rH D5.z H
  replace H:=bS H;obtain ⟨⟨t130,t131,t132⟩,Dr,H⟩:=H
  dsimp only at H
  replace H:=bS H;obtain ⟨⟨t133,t134,t137,t138⟩,L0,H⟩:=H
  dsimp only at H
  simp only [Option.some.injEq,Prod.mk.injEq] at H
  obtain ⟨rfl,rfl,rfl,rfl⟩:=H
  go_enter Try.func97,Try.ntmps97
  go_wp2_with (first|(refine aX (N:=2) rfl ?_;refine eJ 2 #[.int .i64 0,.slice none 0 0] 26 ?_;intro ay hg Ff aY hb;replace HB:=k0 (cu (aG (ag.ge ah.z) HB.z) hb);have aa:=k0 aY;have bn:=gW hg (b_ (aK HK.z));have cG:=k0 (Nat.le_trans jg.z bn.z);replace HK:=eC HK hb;have vH:=k0 ((by rw [hg];exact Nat.ne_of_lt (ag.lt (show ag w0 _ g asZ bB ate from aA ah.z)):g ≠ ay));have cy:=k0 ((by rw [hg];exact Nat.ne_of_gt (ag.lt (show ag w0 _ g asZ bB ate from aA ah.z)):ay ≠ g));replace ah:=k0 (ag.below (aA ah.z) hb);clear hb aY hg)|(refine aT (f:=49) rfl ?_;refine gC (some 7) Try.func49 #[.pointer (some ⟨g,0,none⟩),.int .i64 4] ?_;(with_reducible refine (cw.calls g asZ bB ate 4 t102 t103 t104 w0 _ ?av ?ax A2.z).mono ?_);(case av=>exact aA ah.z);(case ax=>exact aG (ag.ge ah.z) HB.z);rintro e Da ⟨rfl,hi,hb,hk⟩;refine ⟨_,rfl,?_⟩;replace aa:=kK hk aa cy;replace HK:=atm HK hk;replace HB:=k0 hb;replace ah:=k0 hi)|(refine aT (f:=49) rfl ?_;refine gC (some 25) Try.func49 #[.pointer (some ⟨g,0,none⟩),.int .i64 8] ?_;(with_reducible refine (cw.calls g asZ t103 t104 8 t118 t119 t120 w0 _ ?av ?ax Dq.z).mono ?_);(case av=>exact aA ah.z);(case ax=>exact aG (ag.ge ah.z) HB.z);rintro e ZG ⟨rfl,hi,hb,hk⟩;refine ⟨_,rfl,?_⟩;replace aa:=kK hk aa cy;replace HK:=atm HK hk;replace HB:=k0 hb;replace ah:=k0 hi)|(refine aX (N:=27) rfl ?_;refine jM 2 (N:=27) (xs:=([1,2,3,3,4,4,5,6,wrap64 (1+t118)]:List Int)) (inner:=[.int .i64 1,.int .i64 2,.int .i64 3,.int .i64 3,.int .i64 4,.int .i64 4,.int .i64 5,.int .i64 6,.int .i64 (wrap64 (1+t118))]) (aJ.one (show Kd.M (Kd.int .i64) _ _ _ 1 [.int .i64 1] from rfl) (aJ.one (show Kd.M (Kd.int .i64) _ _ _ 2 [.int .i64 2] from rfl) (aJ.one (show Kd.M (Kd.int .i64) _ _ _ 3 [.int .i64 3] from rfl) (aJ.one (show Kd.M (Kd.int .i64) _ _ _ 3 [.int .i64 3] from rfl) (aJ.one (show Kd.M (Kd.int .i64) _ _ _ 4 [.int .i64 4] from rfl) (aJ.one (show Kd.M (Kd.int .i64) _ _ _ 4 [.int .i64 4] from rfl) (aJ.one (show Kd.M (Kd.int .i64) _ _ _ 5 [.int .i64 5] from rfl) (aJ.one (show Kd.M (Kd.int .i64) _ _ _ 6 [.int .i64 6] from rfl) (aJ.one (show Kd.M (Kd.int .i64) _ _ _ (wrap64 (1+t118)) [.int .i64 (wrap64 (1+t118))] from rfl) (aJ.none _ _)))))))))) ?_;intro Ls Iy Hv hb bR atf;clear bR atf;(first|rw [← rW.z] at Hv|(simp only [Int.reduceToNat] at Hv;rw [← rW.z] at Hv));have iL:=k0 (Kd.cg Hv (b_ (aK HK.z)));replace aa:=kB aa hb;replace HK:=eC HK hb;replace HB:=k0 (cu (aG (ag.ge ah.z) HB.z) hb);replace ah:=k0 (ag.below (aA ah.z) hb);clear hb Hv;obtain ⟨xI,pz,rfl⟩:=Kd.b9 iL.z)|(refine aT (f:=51) rfl ?_;refine gC (some 28) Try.func51 #[.pointer (some ⟨g,0,none⟩),.slice xI qY.length pz] ?_;(with_reducible refine (gD.calls g asZ t119 t120 _ _ qY t124 t125 t126 w0 _ ?av ?ax ?bM ?bT ?iG zO.z).mono ?_);(case av=>exact aA ah.z);(case ax=>exact aG (ag.ge ah.z) HB.z);(case bM=>exact aC ((Kd.bD iL.z).2.2));(case bT=>exact (Kd.bD iL.z).2.1);(case iG=>exact yb (ag.lK ah.z iL.z (by decide)));rintro e Iz ⟨rfl,hi,hb,hk⟩;refine ⟨_,rfl,?_⟩;replace aa:=kK hk aa cy;replace iL:=k0 (Kd.aH (Kd.atM (ag.apart (show ag w0 _ g asZ t119 t120 from aA ah.z) (aR iL.z) (by decide)) hk (fun _ h=>h.2)) (fun _ h=>h.1));replace HK:=atm HK hk;replace HB:=k0 hb;replace ah:=k0 hi)|(refine aX (N:=30) rfl ?_;refine jM 2 (N:=30) (xs:=([2,4,6,6,8,10]:List Int)) (inner:=[.int .i64 2,.int .i64 4,.int .i64 6,.int .i64 6,.int .i64 8,.int .i64 10]) (aJ.one (show Kd.M (Kd.int .i64) _ _ _ 2 [.int .i64 2] from rfl) (aJ.one (show Kd.M (Kd.int .i64) _ _ _ 4 [.int .i64 4] from rfl) (aJ.one (show Kd.M (Kd.int .i64) _ _ _ 6 [.int .i64 6] from rfl) (aJ.one (show Kd.M (Kd.int .i64) _ _ _ 6 [.int .i64 6] from rfl) (aJ.one (show Kd.M (Kd.int .i64) _ _ _ 8 [.int .i64 8] from rfl) (aJ.one (show Kd.M (Kd.int .i64) _ _ _ 10 [.int .i64 10] from rfl) (aJ.none _ _))))))) ?_;intro ar8 xo EG hb bR atf;clear bR atf;(first|rw [← D5.z] at EG|(simp only [Int.reduceToNat] at EG;rw [← D5.z] at EG));have yH:=k0 (Kd.cg (Kd.cU EG (Kd.bV (aR iL.z))) (b_ (aK HK.z)));replace iL:=eO iL (Kd.bh EG) hb;replace aa:=kB aa hb;replace HK:=eC HK hb;replace HB:=k0 (cu (aG (ag.ge ah.z) HB.z) hb);replace ah:=k0 (ag.below (aA ah.z) hb);clear hb EG;obtain ⟨xJ,tr,rfl⟩:=Kd.b9 yH.z)|(refine aT (f:=51) rfl ?_;refine gC (some 31) Try.func51 #[.pointer (some ⟨g,0,none⟩),.slice xJ rR.length tr] ?_;(with_reducible refine (gD.calls g asZ t125 t126 _ _ rR t130 t131 t132 w0 _ ?av ?ax ?bM ?bT ?iG Dr.z).mono ?_);(case av=>exact aA ah.z);(case ax=>exact aG (ag.ge ah.z) HB.z);(case bM=>exact aC ((Kd.bD yH.z).2.2));(case bT=>exact (Kd.bD yH.z).2.1);(case iG=>exact yb (ag.lK ah.z yH.z (by decide)));rintro e w36 ⟨rfl,hi,hb,hk⟩;refine ⟨_,rfl,?_⟩;replace aa:=kK hk aa cy;replace iL:=k0 (Kd.aH (Kd.atM (ag.apart (show ag w0 _ g asZ t125 t126 from aA ah.z) (aR iL.z) (by decide)) hk (fun _ h=>h.2)) (fun _ h=>h.1));replace yH:=k0 (Kd.aH (Kd.atM (ag.apart (show ag w0 _ g asZ t125 t126 from aA ah.z) (aR yH.z) (by decide)) hk (fun _ h=>h.2)) (fun _ h=>h.1));replace HK:=atm HK hk;replace HB:=k0 hb;replace ah:=k0 hi)|(refine aT (f:=129) rfl ?_;refine gC (some 32) Try.func129 #[.pointer (some ⟨g,0,none⟩),.int .i64 t124,.int .i64 t130] ?_;(with_reducible refine (dc.calls k g asZ t131 t132 t124 t130 t133 t134 t137 t138 w0 _ ?av ?ax L0.z).mono ?_);(case av=>exact aA ah.z);(case ax=>exact aG (ag.ge ah.z) HB.z);rintro e ZH ⟨Zu,rfl,as2,hi,hb,hk⟩;refine ⟨_,rfl,?_⟩;replace aa:=kK hk aa cy;have z5:=k0 (Kd.jD (Kd.uw (Kd.uw as2 (Kd.bV (aR iL.z))) (Kd.bV (aR yH.z))) (b_ (aK HK.z)));replace iL:=k0 (Kd.aH (Kd.atM (ag.apart (show ag w0 _ g asZ t131 t132 from aA ah.z) (aR iL.z) (by decide)) hk (fun _ h=>h.2)) (fun _ h=>h.1));replace yH:=k0 (Kd.aH (Kd.atM (ag.apart (show ag w0 _ g asZ t131 t132 from aA ah.z) (aR yH.z) (by decide)) hk (fun _ h=>h.2)) (fun _ h=>h.1));replace HK:=atm HK hk;replace HB:=k0 hb;replace ah:=k0 hi;obtain ⟨_,_⟩:=nE cy;obtain ⟨_,_,_,_⟩:=as9 aa;obtain ⟨L4,Ol,rfl⟩:=Kd.er z5.z))
  refine bodyPost_ret (results_cell_row rfl _ _ ay 26 #[.int .i64 t133,.slice L4 t134.length Ol] (0,0) _ rfl kZ Try.underlying26 rfl (by kernel_rfl)) rfl ?_
  exact ⟨_,eR,aS (Kd.bQ (gS 1 (.slice L4 t134.length Ol) (gS 0 (.int .i64 t133) (tS z5 aa))) (fun _ hk=>trivial)),aA ah.z,aG (ag.ge ah.z) HB.z,aK HK.z⟩
 replace H:=bS H;obtain ⟨t105,A4,H⟩:=H
 replace H:=bS H;obtain ⟨⟨t108,t109,t110⟩,A5,H⟩:=H
 dsimp only at H
 replace H:=iS H;obtain ⟨c6,H⟩:=H
 have iP:=decide_eq_true c6
 clear c6
 replace H:=iS H;obtain ⟨c7,H⟩:=H
 have pn:=decide_eq_true c7
 clear c7
 replace H:=bS H;obtain ⟨⟨t112,t113,t116⟩,A8,H⟩:=H
 dsimp only at H
 simp only [Option.some.injEq,Prod.mk.injEq] at H
 obtain ⟨rfl,rfl,rfl,rfl⟩:=H
 go_enter Try.func97,Try.ntmps97
 go_wp2_with (first|(refine aX (N:=2) rfl ?_;refine eJ 2 #[.int .i64 0,.slice none 0 0] 26 ?_;intro ay hg w9 aY hb;replace HB:=k0 (cu (aG (ag.ge ah.z) HB.z) hb);have aa:=k0 aY;have bn:=gW hg (b_ (aK HK.z));have cG:=k0 (Nat.le_trans jg.z bn.z);replace HK:=eC HK hb;have vH:=k0 ((by rw [hg];exact Nat.ne_of_lt (ag.lt (show ag w0 _ g asZ bB ate from aA ah.z)):g ≠ ay));have cy:=k0 ((by rw [hg];exact Nat.ne_of_gt (ag.lt (show ag w0 _ g asZ bB ate from aA ah.z)):ay ≠ g));replace ah:=k0 (ag.below (aA ah.z) hb);clear hb aY hg)|(refine aT (f:=49) rfl ?_;refine gC (some 7) Try.func49 #[.pointer (some ⟨g,0,none⟩),.int .i64 4] ?_;(with_reducible refine (cw.calls g asZ bB ate 4 t102 t103 t104 w0 _ ?av ?ax A2.z).mono ?_);(case av=>exact aA ah.z);(case ax=>exact aG (ag.ge ah.z) HB.z);rintro e pT ⟨rfl,hi,hb,hk⟩;refine ⟨_,rfl,?_⟩;replace aa:=kK hk aa cy;replace HK:=atm HK hk;replace HB:=k0 hb;replace ah:=k0 hi)|(refine aT (f:=127) rfl ?_;refine gC (some 9) Try.func127 #[] ?_;(with_reducible refine (BD.calls  t105 _ A4.z).mono ?_);rintro e Bo ⟨C8,rfl,as2,hb⟩;refine ⟨_,rfl,?_⟩;have lz:=k0 (Kd.cg as2 (b_ (aK HK.z)));replace aa:=kB aa hb;replace HK:=eC HK hb;replace HB:=k0 (cu (aG (ag.ge ah.z) HB.z) hb);replace ah:=k0 (ag.below (aA ah.z) hb);obtain ⟨nt,mZ,rfl⟩:=Kd.b9 lz.z)|(refine aT (f:=49) rfl ?_;refine gC (some 15) Try.func49 #[.pointer (some ⟨g,0,none⟩),.int .i64 (t105.length:Int)] ?_;(with_reducible refine (cw.calls g asZ t103 t104 (t105.length:Int) t108 t109 t110 w0 _ ?av ?ax A5.z).mono ?_);(case av=>exact aA ah.z);(case ax=>exact aG (ag.ge ah.z) HB.z);rintro e rK ⟨rfl,hi,hb,hk⟩;refine ⟨_,rfl,?_⟩;replace aa:=kK hk aa cy;replace lz:=k0 (Kd.aH (Kd.atM (ag.apart (show ag w0 _ g asZ t103 t104 from aA ah.z) (aR lz.z) (by decide)) hk (fun _ h=>h.2)) (fun _ h=>h.1));replace HK:=atm HK hk;replace HB:=k0 hb;replace ah:=k0 hi;obtain ⟨oM,oO⟩:=iN t108 (t105.length:Int);obtain ⟨F3,e111,sA⟩:=Kd.Ai (Kd.bD lz.z).2.2 t108 oM oO;cases e111;replace oM:=eT oM;replace oO:=eT oO)|(refine aT (f:=128) rfl ?_;refine gC (some 18) Try.func128 #[.string (atF ByteArray.empty t105 t108)] ?_;(with_reducible refine (sN.calls k (atF ByteArray.empty t105 t108) t112 t113 t116 _ A8.z).mono ?_);rintro e vk ⟨Lr,rfl,as2,hb⟩;refine ⟨_,rfl,?_⟩;replace lz:=eI lz hb;have mD:=k0 (Kd.jD as2 (b_ (aK HK.z)));replace aa:=kB aa hb;replace HK:=eC HK hb;replace HB:=k0 (cu (aG (ag.ge ah.z) HB.z) hb);replace ah:=k0 (ag.below (aA ah.z) hb))|(refine aX (N:=4) rfl ?_;refine eJ 4 #[.int .i64 0,.slice none 0 0] 26 ?_;intro J6 hg sF aY hb;replace lz:=eI lz hb;replace mD:=nF mD hb;replace HB:=k0 (cu (aG (ag.ge ah.z) HB.z) hb);have Sd:=k0 aY;have aa1:=gW hg (b_ (aK HK.z));have amw:=k0 (Nat.le_trans jg.z aa1.z);replace HK:=eC HK hb;have acd:=nL hg aa;have acg:=nG acd;replace aa:=kB aa hb;have anm:=k0 ((by rw [hg];exact Nat.ne_of_lt (ag.lt (show ag w0 _ g asZ t109 t110 from aA ah.z)):g ≠ J6));have acf:=k0 ((by rw [hg];exact Nat.ne_of_gt (ag.lt (show ag w0 _ g asZ t109 t110 from aA ah.z)):J6 ≠ g));replace ah:=k0 (ag.below (aA ah.z) hb);clear hb aY hg;obtain ⟨_,_⟩:=nE acg;obtain ⟨_,_⟩:=nE acf;obtain ⟨_,_,_,_⟩:=as9 Sd;obtain ⟨vt,uz,rfl⟩:=Kd.er mD.z;obtain ⟨_,_⟩:=nE cy;obtain ⟨_,_,_,_⟩:=as9 aa))
 refine bodyPost_ret (results_cell_row rfl _ _ ay 26 #[.int .i64 t112,.slice vt t113.length uz] (0,0) _ rfl kZ Try.underlying26 rfl (by kernel_rfl)) rfl ?_
 exact ⟨_,eR,aS (Kd.bQ (Kd.lW (p:=⟨ay,1,none⟩) (Kd.lW (p:=⟨ay,0,none⟩) (Kd.lW (p:=⟨J6,1,none⟩) (Kd.lW (p:=⟨J6,0,none⟩) (Kd.Af (tS mD Sd) aa.z (by decide)) (fun _ hk=>hk.1.2) (.int .i64 t112)) (fun _ hk=>hk.1.2) (.slice vt t113.length uz)) (fun _ hk=>hk.2) (.int .i64 t112)) (fun _ hk=>hk.2) (.slice vt t113.length uz)) (fun _ hk=>trivial)),aA ah.z,aG (ag.ge ah.z) HB.z,aK HK.z⟩
/-! ### F48: function 48 -/
def zU.f (k:Nat) (asZ:List Int) (bB:Int) (ate:Int):Option (Int × (List (List Int)) × Int × Int):=(BM.f k asZ bB ate).bind fun eN=>((atU.f k asZ eN.2.2.1 eN.2.2.2 eN.1 eN.2.1).bind fun qD=>(some (qD.1,qD.2.1,qD.2.2.1,qD.2.2.2)))
theorem zU.calls (k : Nat) (g : Nat) (asZ : List Int) (bB : Int) (ate : Int) (r1 : Int) (r2 : List (List Int)) (r3 : Int) (r4 : Int) (w0 w : World) (hI : ag w0 w g asZ bB ate) (hB : Below w0.heap.size w0 w) (h : zU.f k asZ bB ate = some (r1, r2, r3, r4)) :
  Calls Try.prog 48 #[.pointer (some ⟨g,0,none⟩)] w fun e w'=>∃ nP:Value,e=.returned (.agg #[.int .i64 r1,nP])∧Kd.V (Kd.slice 2 (Kd.int .i64)) 29 w' w.heap.size (fun k_=>(w.heap.size≤k_)) nP r2∧ag w0 w' g asZ r3 r4∧Below w0.heap.size w0 w'∧bx w w' g none:=by
 have gV:=Try.underlying26
 have ah:=k0 hI
 have HK:=k0 (bx.refl w g none)
 have HL:=k0 hB.size
 clear hI
 have jg:=k0 hB.size
 have HB:=k0 hB
 clear hB
 unfold zU.f at h
 have H:=h
 clear h
 replace H:=bS H;obtain ⟨⟨t102,t103,t106,t107⟩,A2,H⟩:=H
 dsimp only at H
 replace H:=bS H;obtain ⟨⟨t108,t109,t112,t113⟩,A3,H⟩:=H
 dsimp only at H
 simp only [Option.some.injEq,Prod.mk.injEq] at H
 obtain ⟨rfl,rfl,rfl,rfl⟩:=H
 go_enter Try.func48,Try.ntmps48
 go_wp2_with (first|(refine aX (N:=2) rfl ?_;refine eJ 2 #[.int .i64 0,.slice none 0 0] 26 ?_;intro ay hg w4 aY hb;replace HB:=k0 (cu (aG (ag.ge ah.z) HB.z) hb);have aa:=k0 aY;have bn:=gW hg (b_ (aK HK.z));have cG:=k0 (Nat.le_trans jg.z bn.z);replace HK:=eC HK hb;have vH:=k0 ((by rw [hg];exact Nat.ne_of_lt (ag.lt (show ag w0 _ g asZ bB ate from aA ah.z)):g ≠ ay));have cy:=k0 ((by rw [hg];exact Nat.ne_of_gt (ag.lt (show ag w0 _ g asZ bB ate from aA ah.z)):ay ≠ g));replace ah:=k0 (ag.below (aA ah.z) hb);clear hb aY hg)|(refine aT (f:=97) rfl ?_;refine gC (some 5) Try.func97 #[.pointer (some ⟨g,0,none⟩)] ?_;(with_reducible refine (BM.calls k g asZ bB ate t102 t103 t106 t107 w0 _ ?av ?ax A2.z).mono ?_);(case av=>exact aA ah.z);(case ax=>exact aG (ag.ge ah.z) HB.z);rintro e w5 ⟨xj,rfl,as2,hi,hb,hk⟩;refine ⟨_,rfl,?_⟩;replace aa:=kK hk aa cy;have jf:=k0 (Kd.jD (Kd.F0 (M:=fun k_=>(w.heap.size≤k_)) as2 (b_ (aK HK.z)) (fun k_ h_=>h_)) (b_ (aK HK.z)));replace HK:=atm HK hk;replace HB:=k0 hb;replace ah:=k0 hi;obtain ⟨Dx,Ex,rfl⟩:=Kd.er jf.z)|(refine aT (f:=96) rfl ?_;refine gC (some 6) Try.func96 #[.pointer (some ⟨g,0,none⟩),.agg #[.int .i64 t102,.slice Dx t103.length Ex]] ?_;(with_reducible refine (atU.calls k g asZ t106 t107 t102 (fun k_=>((((w.heap.size≤k_)∧True)∧k_ ≠ ay)∧k_ ≠ g)) _ _ t103 t108 t109 t112 t113 w0 _ ?av ?ax ?bM A3.z).mono ?_);(case av=>exact aA ah.z);(case ax=>exact aG (ag.ge ah.z) HB.z);(case bM=>exact Kd.bf (Kd.FZ (ag.p6 ah.z (Kd.Af (jf.z) aa.z (by decide)) (by decide))) (fun k_ aU=>⟨aU,aU.2⟩));rintro e w7 ⟨akP,rfl,as2,hi,hb,hk⟩;refine ⟨_,rfl,?_⟩;replace jf:=k0 (Kd.bQ (Kd.qz (ag.p6 (show ag w0 _ g asZ t106 t107 from aA ah.z) (aS jf.z) (by decide)) hk (fun _ h=>h.2)) (fun _ h=>h.1));have BU:=k0 (Kd.vR (Kd.bf (ok':=fun k_=>(w.heap.size≤k_)∧k_ ≠ ay∧k_ ≠ g) as2 (fun k_ aU=>⟨Or.elim aU (fun hs_=>hs_.1.1.1) (fun Hs=>(Nat.le_trans (b_ (aK HK.z)) Hs)),Or.elim aU (fun hs_=>hs_.1.2) (fun Hs=>(Kd.qK (aB aa.z) k_ Hs)),Or.elim aU (fun hs_=>hs_.2) (fun Hs=>(ag.fresh (aA ah.z) k_ Hs))⟩)) (b_ (aK HK.z)));replace aa:=kK hk aa cy;replace HK:=atm HK hk;replace HB:=k0 hb;replace ah:=k0 hi;obtain ⟨_,_⟩:=nE cy;obtain ⟨_,_,_,_⟩:=as9 aa;obtain ⟨zP,At,rfl⟩:=Kd.auA BU.z))
 refine bodyPost_ret (results_cell_row rfl _ _ ay 26 #[.int .i64 t108,.slice zP t109.length At] (0,0) _ rfl kZ Try.underlying26 rfl (by kernel_rfl)) rfl ?_
 exact ⟨_,eR,aV (Kd.bf (Kd.iO (p:=⟨ay,1,none⟩) (Kd.iO (p:=⟨ay,0,none⟩) (Kd.bf BU.z (fun k_ hk=>(⟨hk,hk.2.1⟩:_∧k_ ≠ ay))) (fun _ hk=>hk.2) (.int .i64 t108)) (fun _ hk=>hk.2) (.slice zP t109.length At)) (fun _ hk=>hk.1.1)),aA ah.z,aG (ag.ge ah.z) HB.z,aK HK.z⟩
/-! ### F114: function 114 -/
def yC.f (asZ:List Int) (bB:Int) (ate:Int):Option (Int × Int × Int):=(gD.f asZ bB ate (([7,13,0,9,10009]:List Int))).bind fun B_=>((gD.f asZ B_.2.1 B_.2.2 (([2,3,5,7,11,101,10007,B_.1]:List Int))).bind fun ot=>(some (ot.1,ot.2.1,ot.2.2)))
theorem yC.calls (g : Nat) (asZ : List Int) (bB : Int) (ate : Int) (r1 : Int) (r2 : Int) (r3 : Int) (w0 w : World) (hI : ag w0 w g asZ bB ate) (hB : Below w0.heap.size w0 w) (h : yC.f asZ bB ate = some (r1, r2, r3)) :
  Calls Try.prog 114 #[.pointer (some ⟨g,0,none⟩)] w fun e w'=>e=.returned (.int .i64 r1)∧ag w0 w' g asZ r2 r3∧Below w0.heap.size w0 w'∧bx w w' g none:=by
 have ah:=k0 hI
 have HK:=k0 (bx.refl w g none)
 have HL:=k0 hB.size
 clear hI
 have jg:=k0 hB.size
 have HB:=k0 hB
 clear hB
 unfold yC.f at h
 have H:=h
 clear h
 obtain ⟨atN,gH⟩:=nY (([7,13,0,9,10009]:List Int):List Int)
 replace H:((gD.f asZ bB ate atN).bind fun B_=>((gD.f asZ B_.2.1 B_.2.2 (([2,3,5,7,11,101,10007,B_.1]:List Int))).bind fun ot=>(some (ot.1,ot.2.1,ot.2.2))))=some (r1,r2,r3):=rH gH.z H
 replace H:=bS H;obtain ⟨⟨t104,t105,t106⟩,A2,H⟩:=H
 dsimp only at H
 obtain ⟨jl,lV⟩:=nY (([2,3,5,7,11,101,10007,t104]:List Int):List Int)
 replace H:((gD.f asZ t105 t106 jl).bind fun ot=>(some (ot.1,ot.2.1,ot.2.2)))=some (r1,r2,r3):=rH lV.z H
 replace H:=bS H;obtain ⟨⟨t110,t111,t112⟩,A3,H⟩:=H
 dsimp only at H
 simp only [Option.some.injEq,Prod.mk.injEq] at H
 obtain ⟨rfl,rfl,rfl⟩:=H
 go_enter Try.func114,Try.ntmps114
 go_wp2_with (first|(refine aX (N:=5) rfl ?_;refine jM 2 (N:=5) (xs:=([7,13,0,9,10009]:List Int)) (inner:=[.int .i64 7,.int .i64 13,.int .i64 0,.int .i64 9,.int .i64 10009]) (aJ.one (show Kd.M (Kd.int .i64) _ _ _ 7 [.int .i64 7] from rfl) (aJ.one (show Kd.M (Kd.int .i64) _ _ _ 13 [.int .i64 13] from rfl) (aJ.one (show Kd.M (Kd.int .i64) _ _ _ 0 [.int .i64 0] from rfl) (aJ.one (show Kd.M (Kd.int .i64) _ _ _ 9 [.int .i64 9] from rfl) (aJ.one (show Kd.M (Kd.int .i64) _ _ _ 10009 [.int .i64 10009] from rfl) (aJ.none _ _)))))) ?_;intro nO w4 wD hb bR atf;clear bR atf;(first|rw [← gH.z] at wD|(simp only [Int.reduceToNat] at wD;rw [← gH.z] at wD));have eV:=k0 (Kd.cg wD (b_ (aK HK.z)));replace HK:=eC HK hb;replace HB:=k0 (cu (aG (ag.ge ah.z) HB.z) hb);replace ah:=k0 (ag.below (aA ah.z) hb);clear hb wD;obtain ⟨Dx,Ex,rfl⟩:=Kd.b9 eV.z)|(refine aT (f:=51) rfl ?_;refine gC (some 6) Try.func51 #[.pointer (some ⟨g,0,none⟩),.slice Dx atN.length Ex] ?_;(with_reducible refine (gD.calls g asZ bB ate _ _ atN t104 t105 t106 w0 _ ?av ?ax ?bM ?bT ?iG A2.z).mono ?_);(case av=>exact aA ah.z);(case ax=>exact aG (ag.ge ah.z) HB.z);(case bM=>exact aC ((Kd.bD eV.z).2.2));(case bT=>exact (Kd.bD eV.z).2.1);(case iG=>exact yb (ag.lK ah.z eV.z (by decide)));rintro e w7 ⟨rfl,hi,hb,hk⟩;refine ⟨_,rfl,?_⟩;replace eV:=k0 (Kd.aH (Kd.atM (ag.apart (show ag w0 _ g asZ bB ate from aA ah.z) (aR eV.z) (by decide)) hk (fun _ h=>h.2)) (fun _ h=>h.1));replace HK:=atm HK hk;replace HB:=k0 hb;replace ah:=k0 hi)|(refine aX (N:=7) rfl ?_;refine jM 2 (N:=7) (xs:=([2,3,5,7,11,101,10007,t104]:List Int)) (inner:=[.int .i64 2,.int .i64 3,.int .i64 5,.int .i64 7,.int .i64 11,.int .i64 101,.int .i64 10007,.int .i64 t104]) (aJ.one (show Kd.M (Kd.int .i64) _ _ _ 2 [.int .i64 2] from rfl) (aJ.one (show Kd.M (Kd.int .i64) _ _ _ 3 [.int .i64 3] from rfl) (aJ.one (show Kd.M (Kd.int .i64) _ _ _ 5 [.int .i64 5] from rfl) (aJ.one (show Kd.M (Kd.int .i64) _ _ _ 7 [.int .i64 7] from rfl) (aJ.one (show Kd.M (Kd.int .i64) _ _ _ 11 [.int .i64 11] from rfl) (aJ.one (show Kd.M (Kd.int .i64) _ _ _ 101 [.int .i64 101] from rfl) (aJ.one (show Kd.M (Kd.int .i64) _ _ _ 10007 [.int .i64 10007] from rfl) (aJ.one (show Kd.M (Kd.int .i64) _ _ _ t104 [.int .i64 t104] from rfl) (aJ.none _ _))))))))) ?_;intro xk w8 kj hb bR atf;clear bR atf;(first|rw [← lV.z] at kj|(simp only [Int.reduceToNat] at kj;rw [← lV.z] at kj));have fj:=k0 (Kd.cg (Kd.cU kj (Kd.bV (aR eV.z))) (b_ (aK HK.z)));replace eV:=eO eV (Kd.bh kj) hb;replace HK:=eC HK hb;replace HB:=k0 (cu (aG (ag.ge ah.z) HB.z) hb);replace ah:=k0 (ag.below (aA ah.z) hb);clear hb kj;obtain ⟨zP,At,rfl⟩:=Kd.b9 fj.z)|(refine aT (f:=51) rfl ?_;refine gC (some 8) Try.func51 #[.pointer (some ⟨g,0,none⟩),.slice zP jl.length At] ?_;(with_reducible refine (gD.calls g asZ t105 t106 _ _ jl t110 t111 t112 w0 _ ?av ?ax ?bM ?bT ?iG A3.z).mono ?_);(case av=>exact aA ah.z);(case ax=>exact aG (ag.ge ah.z) HB.z);(case bM=>exact aC ((Kd.bD fj.z).2.2));(case bT=>exact (Kd.bD fj.z).2.1);(case iG=>exact yb (ag.lK ah.z fj.z (by decide)));rintro e Bo ⟨rfl,hi,hb,hk⟩;refine ⟨_,rfl,?_⟩;replace eV:=k0 (Kd.aH (Kd.atM (ag.apart (show ag w0 _ g asZ t105 t106 from aA ah.z) (aR eV.z) (by decide)) hk (fun _ h=>h.2)) (fun _ h=>h.1));replace fj:=k0 (Kd.aH (Kd.atM (ag.apart (show ag w0 _ g asZ t105 t106 from aA ah.z) (aR fj.z) (by decide)) hk (fun _ h=>h.2)) (fun _ h=>h.1));replace HK:=atm HK hk;replace HB:=k0 hb;replace ah:=k0 hi))
 go_ret
 exact ⟨eR,aA ah.z,aG (ag.ge ah.z) HB.z,aK HK.z⟩
end Go.Proofs.Ytapnggjaeehpdaa.B
/- Set with little white space, by a program. -/
