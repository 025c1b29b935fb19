/- Go's calls come to what the Lean functions say. Condition of each: that the Lean function answers. -/
import Derived.Test.YtapnggjaeehpdaaBx0
import Derived.Test.YtapnggjaeehpdaaBx1
import Derived.Test.YtapnggjaeehpdaaBx6
namespace Go.Proofs.Ytapnggjaeehpdaa.B
open Go.RowKit Go.Proofs.bz.dI Go.Proofs.bz.iY Go.Proofs.bz.jn
attribute [local go_sem] max2_int min2_int max_two min_two max_three min_three max_four min_four
set_option linter.unusedVariables false
set_option linter.unusedSimpArgs false
/-! ### F75: function 75 -/
def iJ.l0 : Nat → Int → List Int → Int → List Int → Int → Int → Int → List (List Int) → Option (Int × Int × (List (List Int)) × List Int × Int × Int)
 | 0,_,_,_,_,_,_,_,_=>none
 | k+1,x5,x7,x8,fF,jx,jy,IF,Fh=>if x8 < (wrap64 (2 * (Fh.length:Int))) then (if (mx x5 1)=0 then (none) else ((cw.f fF jx jy (mx x5 1)).bind fun kV=>((gD.f fF kV.2.1 kV.2.2 (([1,Int.tmod 1 (mx x5 1),kV.1]:List Int))).bind fun ou=>(if x7.length < 17592186044416 then (iJ.l0 k x5 (x7 ++ [ou.1]) (wrap64 (x8+1)) fF ou.2.1 ou.2.2 IF Fh) else (none))))) else ((cw.f fF jx jy 24).bind fun kD=>(if kD.1=0 then (if x7.length < 17592186044416 then (some (x5,IF,Fh,(x7 ++ [1]),kD.2.1,kD.2.2)) else (none)) else (if kD.1=1 then (if (x7.length:Int) > 0 then ((gD.f fF kD.2.1 kD.2.2 (([x5,(-1)]:List Int))).bind fun td=>(if 0 < (x7.length:Int) then (some (x5,IF,Fh,(x7.set (0:Int).toNat td.1),td.2.1,td.2.2)) else (none))) else (some (x5,IF,Fh,x7,kD.2.1,kD.2.2))) else (some (x5,IF,Fh,x7,kD.2.1,kD.2.2)))))
def iJ.f (k:Nat) (asZ:List Int) (bB:Int) (ate:Int):Option (Int × Int × (List (List Int)) × List Int × Int × Int):=(yC.f asZ bB ate).bind fun eN=>((zU.f k asZ eN.2.1 eN.2.2).bind fun JK=>(iJ.l0 k eN.1 (([]:List Int)) 0 asZ JK.2.2.1 JK.2.2.2 JK.1 JK.2.1))
def iJ.T5:Bool × List (List Nat × List Nat):=(true,[([],[]),([],[]),([],[]),([2],[2]),([3],[3]),([],[]),([],[]),([6],[6]),([5,7],[5,7]),([4,8],[4,8]),([1,9,8],[1,9]),([10],[10]),([0,11,10],[0,11]),([12,12,0,1,2,3,4,5,6,7,8,9,10,11,12],[0,12])])
def iJ.B5:List Nat:=[0,0,0,4,12,0,0,64,224,508,1022,2046,4095,8191]
theorem iJ.Bl:eB .any (opsOf Try.f75 5)=iJ.T5:=by kernel_rfl
theorem iJ.Aj:ie iJ.T5.2 iJ.B5=true:=by kernel_rfl
set_option maxHeartbeats 8000000 in
set_option maxRecDepth 100000 in
theorem iJ.calls (k : Nat) (g : Nat) (asZ : List Int) (bB : Int) (ate : Int) (r1 : Int) (r2 : Int) (r3 : List (List Int)) (r4 : List Int) (r5 : Int) (r6 : Int) (w0 w : World) (hI : ag w0 w g asZ bB ate) (hB : Below w0.heap.size w0 w) (h : iJ.f k asZ bB ate = some (r1, r2, r3, r4, r5, r6)) :
  Calls Try.prog 75 #[.pointer (some ⟨g,0,none⟩)] w fun e w'=>∃ ql qW:Value,e=.returned (.tuple #[.int .i64 r1,.agg #[.int .i64 r2,ql],qW])∧Kd.V (Kd.slice 2 (Kd.int .i64)) 29 w' w.heap.size (fun k_=>(w.heap.size≤k_)∧some k_ ≠ (qW:Value).ownBlock) ql r3∧Kd.R (Kd.int .i64) 2 w' w.heap.size (fun k_=>(w.heap.size≤k_)) qW r4∧ag w0 w' g asZ r5 r6∧Below w0.heap.size w0 w'∧bx w w' g none:=by
 have gV:=Try.underlying26
 have ah:=k0 hI
 have HK:=k0 (bx.refl w g none)
 have HL:=k0 hB.size
 clear hI
 have jg:=k0 hB.size
 have HB:=k0 hB
 clear hB
 unfold iJ.f at h
 have H:=h
 clear h
 replace H:=bS H;obtain ⟨⟨t102,t103,t104⟩,A2,H⟩:=H
 dsimp only at H
 replace H:=bS H;obtain ⟨⟨t105,t106,t109,t110⟩,A3,H⟩:=H
 dsimp only at H
 obtain ⟨tY,uo⟩:=nY (([]:List Int):List Int)
 replace H:(iJ.l0 k t102 tY 0 asZ t109 t110 t105 t106)=some (r1,r2,r3,r4,r5,r6):=rH uo.z H
 have H':=k0 H
 clear H
 go_enter Try.func75,Try.ntmps75
 go_wp2_with (first|(refine aX (N:=3) rfl ?_;refine eJ 3 #[.int .i64 0,.slice none 0 0] 26 ?_;intro ay hg w4 aY hb;replace HB:=k0 (cu (aG (ag.ge ah.z) HB.z) hb);have aa:=k0 aY;have bn:=gW hg (b_ (aK HK.z));have cG:=k0 (Nat.le_trans jg.z bn.z);replace HK:=eC HK hb;have vH:=k0 ((by rw [hg];exact Nat.ne_of_lt (ag.lt (show ag w0 _ g asZ bB ate from aA ah.z)):g ≠ ay));have cy:=k0 ((by rw [hg];exact Nat.ne_of_gt (ag.lt (show ag w0 _ g asZ bB ate from aA ah.z)):ay ≠ g));replace ah:=k0 (ag.below (aA ah.z) hb);clear hb aY hg)|(refine aT (f:=114) rfl ?_;refine gC (some 10) Try.func114 #[.pointer (some ⟨g,0,none⟩)] ?_;(with_reducible refine (yC.calls g asZ bB ate t102 t103 t104 w0 _ ?av ?ax A2.z).mono ?_);(case av=>exact aA ah.z);(case ax=>exact aG (ag.ge ah.z) HB.z);rintro e w5 ⟨rfl,hi,hb,hk⟩;refine ⟨_,rfl,?_⟩;replace aa:=kK hk aa cy;replace HK:=atm HK hk;replace HB:=k0 hb;replace ah:=k0 hi)|(refine aT (f:=48) rfl ?_;refine gC (some 12) Try.func48 #[.pointer (some ⟨g,0,none⟩)] ?_;(with_reducible refine (zU.calls k g asZ t103 t104 t105 t106 t109 t110 w0 _ ?av ?ax A3.z).mono ?_);(case av=>exact aA ah.z);(case ax=>exact aG (ag.ge ah.z) HB.z);rintro e w6 ⟨Iq,rfl,as2,hi,hb,hk⟩;refine ⟨_,rfl,?_⟩;have kS:=k0 (Kd.vR (Kd.bf (ok':=fun k_=>(w.heap.size≤k_)∧k_ ≠ ay∧k_ ≠ g) as2 (fun k_ aU=>⟨(Nat.le_trans (b_ (aK HK.z)) aU),(Kd.qK (aB aa.z) k_ aU),(ag.fresh (aA ah.z) k_ aU)⟩)) (b_ (aK HK.z)));replace aa:=kK hk aa cy;replace HK:=atm HK hk;replace HB:=k0 hb;replace ah:=k0 hi)|(refine aX (N:=13) rfl ?_;refine jM 2 (N:=13) (xs:=([]:List Int)) (inner:=[]) (aJ.none _ _) ?_;intro cA w7 uJ hb bR atf;clear bR atf;(first|rw [← uo.z] at uJ|(simp only [Int.reduceToNat] at uJ;rw [← uo.z] at uJ));replace kS:=fl kS (Kd.bh uJ) hb;have eg:=k0 (Kd.cg (Kd.rY (M:=fun k_=>(w.heap.size≤k_)) uJ (b_ (aK HK.z)) (fun k_ h_=>h_)) (b_ (aK HK.z)));replace aa:=kB aa hb;replace HK:=eC HK hb;replace HB:=k0 (cu (aG (ag.ge ah.z) HB.z) hb);replace ah:=k0 (ag.below (aA ah.z) hb);clear hb uJ)|(refine aX (N:=6) rfl ?_;refine eJ 6 #[.int .i64 0,.slice none 0 0] 26 ?_;intro at3 hg w9 aY hb;replace kS:=atZ kS hg hb;replace eg:=eI eg hb;replace HB:=k0 (cu (aG (ag.ge ah.z) HB.z) hb);have dB:=k0 aY;have aa0:=gW hg (b_ (aK HK.z));have amv:=k0 (Nat.le_trans jg.z aa0.z);replace HK:=eC HK hb;have yL:=nL hg aa;have jC:=nG yL;replace aa:=kB aa hb;have anl:=k0 ((by rw [hg];exact Nat.ne_of_lt (ag.lt (show ag w0 _ g asZ t109 t110 from aA ah.z)):g ≠ at3));have s6:=k0 ((by rw [hg];exact Nat.ne_of_gt (ag.lt (show ag w0 _ g asZ t109 t110 from aA ah.z)):at3 ≠ g));replace ah:=k0 (ag.below (aA ah.z) hb);clear hb aY hg;obtain ⟨_,_⟩:=nE jC;obtain ⟨_,_⟩:=nE s6;obtain ⟨_,_,_,_⟩:=as9 dB;obtain ⟨gu,gj,rfl⟩:=Kd.auA kS.z))
 go_loopg [7,8] k (fun kq v7 v8 w'=>∃ (ef:List Int) (dA:Int) (kO:Int) (at1:Int),v8=.int .i64 dA∧af (iJ.l0 kq t102 ef dA asZ kO at1 t105 t106=some (r1,r2,r3,r4,r5,r6))∧af (kq≤k)∧af (Kd.R (Kd.int .i64) 2 w' w.heap.size (fun k_=>(w.heap.size≤k_)) v7 ef)∧af (Kd.V (Kd.slice 2 (Kd.int .i64)) 29 w' w.heap.size (fun k_=>(w.heap.size≤k_)∧some k_ ≠ (v7:Value).ownBlock∧k_ ≠ ay∧k_ ≠ at3∧k_ ≠ g) (.slice gu t106.length gj) t106)∧af (w'.heap[ay]?=some (.cells #[.int .i64 0,(.slice none 0 0)] 26 (0,0)))∧af (w'.heap[at3]?=some (sO t105 gu t106 gj 26))∧af (ag w0 w' g asZ kO at1)∧af (bx w w' g none)∧af (Below w0.heap.size w0 w'))
 case atStart=>exact ⟨(tY),(0),(t109),(t110),rs,H',⟨Nat.le_refl _⟩,⟨aR (Kd.aH (gR 1 (.slice gu t106.length gj) (gR 0 (.int .i64 t105) (tR eg dB))) (fun _ hk=>hk.1.1))⟩,⟨aV (Kd.bf (Kd.iO (p:=⟨at3,1,none⟩) (Kd.iO (p:=⟨at3,0,none⟩) (Kd.bf kS.z (fun k_ hk=>(⟨hk,hk.2⟩:_∧k_ ≠ at3))) (fun _ hk=>hk.2) (.int .i64 t105)) (fun _ hk=>hk.2) (.slice gu t106.length gj)) (fun _ hk=>⟨hk.1.1.1.1,⟨hk.1.1.2,⟨hk.1.1.1.2.1,⟨hk.1.2,hk.1.1.1.2.2⟩⟩⟩⟩))⟩,⟨kZ⟩,⟨kZ⟩,⟨aA ah.z⟩,⟨aK HK.z⟩,⟨aG (ag.ge ah.z) HB.z⟩⟩
 case round =>
  clear H'
  obtain ⟨ef,dA,kO,at1,rfl,HA,as3,bG,fJ,aa,dB,ah,HK,HB⟩:=hrel
  cases gk with
  | zero=>exact absurd HA.z (by simp [iJ.l0])
  | succ k1 =>
   have H:=HA.z
   clear HA
   simp only [iJ.l0] at H
   replace H:=iC H;obtain ⟨ov,H⟩|⟨ov,H⟩:=H
   case inl =>
    replace H:=bS H;obtain ⟨⟨t127,t128,t129⟩,IZ,H⟩:=H
    dsimp only at H
    replace H:=iE H;obtain ⟨c32,Ch,aea,H⟩|⟨Ch,aea,H⟩:=H
    case inl =>
     replace H:=iE H;obtain ⟨c42,Cj,JQ,H⟩|⟨Cj,JQ,H⟩:=H
     case inl =>
      simp only [Option.some.injEq,Prod.mk.injEq] at H
      obtain ⟨rfl,rfl,rfl,rfl,rfl,rfl⟩:=H
      obtain ⟨_,_⟩:=nE jC
      obtain ⟨_,_⟩:=nE s6
      obtain ⟨_,_,_,_⟩:=as9 dB
      try go_wp2_with (first|(refine aT (f:=49) rfl ?_;refine gC (some 36) Try.func49 #[.pointer (some ⟨g,0,none⟩),.int .i64 24] ?_;(with_reducible refine (cw.calls g asZ kO at1 24 t127 t128 t129 w0 _ ?av ?ax IZ.z).mono ?_);(case av=>exact aA ah.z);(case ax=>exact aG (ag.ge ah.z) HB.z);rintro e ZL ⟨rfl,hi,hb,hk⟩;refine ⟨_,rfl,?_⟩;replace bG:=k0 (Kd.aH (Kd.atM (ag.apart (show ag w0 _ g asZ kO at1 from aA ah.z) (aR bG.z) (by decide)) hk (fun _ h=>h.2)) (fun _ h=>h.1));replace fJ:=k0 (Kd.bf (Kd.nC (Kd.bf (ok:=fun k_=>(((w.heap.size≤k_))∧(some k_ ≠ (u7:Value).ownBlock∧(k_ ≠ ay∧(k_ ≠ at3∧k_ ≠ g))))) (aV fJ.z) (fun k_ aU=>(⟨aU,aU.2.2.2.2⟩:_∧k_ ≠ g))) hk (fun _ h=>h.2)) (fun _ h=>h.1));replace aa:=kK hk aa cy;replace dB:=kK hk dB s6;replace HK:=atm HK hk;replace HB:=k0 hb;replace ah:=k0 hi))
      replace bG:=k0 (Kd.di bG.z);replace fJ:=k0 (Kd.vQ fJ.z);replace aa:=k0 (dg aa.z);replace dB:=k0 (dg dB.z);replace ah:=k0 (ag.drew ah.z);replace HK:=k0 (wU HK.z);replace HB:=k0 (eZ HB.z)
      refine atG (n:=6) (S:=fun w'=>w'.cell? ⟨at3,0,none⟩=some (.int .i64 t105)∧w'.cell? ⟨at3,1,none⟩=some (.slice gu t106.length gj)) (ds:=[]) (ba 6 0) (by kernel_rfl) rfl rfl ⟨dU dB,ej dB⟩ (fun hHeld=>?_)
      generalize ZL.drew=RI at bG fJ aa dB ah HK HB hHeld ⊢
      refine jc (i:=0) (N:=some 53) (v:=?_) (a':=?_) (ba 6 1) rfl rfl (by kernel_rfl) (fun _ _ _ h=>h) (Or.inl ⟨by rfl,?_⟩) ?_ ?_
      rotate_left;· intro w';go_simp;with_reducible rfl
      rotate_left;· simp only [Act.put,zI,zZ,zS,bp,bH];rfl
      refine jc (i:=2) (N:=some 55) (v:=?_) (a':=?_) (ba 6 5) rfl rfl (by kernel_rfl) (fun _ _ _ h=>h) (Or.inl ⟨by rfl,?_⟩) ?_ ?_
      rotate_left;· intro w';go_simp;with_reducible rfl
      rotate_left;· simp only [Act.put,zI,zZ,zS,bp,bH];rfl
      refine jc (i:=3) (N:=some 2) (v:=?_) (a':=?_) (ba 6 13) rfl rfl (by kernel_rfl) (fun _ _ _ h=>h) (Or.inl ⟨by rfl,?_⟩) ?_ ?_
      rotate_left;· intro w';go_simp;with_reducible rfl
      rotate_left;· simp only [Act.put,zI,zZ,zS,bp,bH];rfl
      refine oQ (i:=1) (N:=some 54) (v:=?_) (a':=?_) (ba 6 15) rfl rfl (by kernel_rfl) (fun _ _ _ h=>h) (Or.inl ⟨by rfl,?_⟩) hHeld ?_ ?_
      rotate_left;· rintro w' ⟨s0,s1⟩;go_simp;with_reducible rfl
      rotate_left;· simp only [Act.put,zI,zZ,zS,bp,bH];rfl
      refine atw (i:=4) (N:=none) (ba 6 31) rfl rfl (by kernel_rfl) (by decide) (fun K hK=>?_)
      obtain ⟨_,_⟩:=uD aa
      have arq:=jC.z
      have aqF:=yL.z
      have arB:=ej aa
      have apJ:=bF aa 1
      have ars:=jC.z
      have aqG:=yL.z
      refine lf (w1:=?_) (by rfl) rfl ?_ ?_
      rotate_left;· go_simp;rfl
      refine hK.out _ _ ⟨((cell_far (p:=⟨ay,_,none⟩) jC.z _).trans (((cell_far (p:=⟨ay,_,none⟩) jC.z _).trans (hHeld.1)))),((cell_far (p:=⟨ay,_,none⟩) jC.z _).trans (((cell_far (p:=⟨ay,_,none⟩) jC.z _).trans (hHeld.2))))⟩ (fun hHeld=>?_)
      clear hK K
      refine jc (i:=5) (N:=some 4) (v:=?_) (a':=?_) (ba 6 63) rfl rfl (by kernel_rfl) (fun _ _ _ h=>h) (Or.inl ⟨by rfl,?_⟩) ?_ ?_
      rotate_left;· intro w';go_simp;with_reducible rfl
      rotate_left;· simp only [Act.put,zI,zZ,zS,bp,bH];rfl
      refine gY (by kernel_rfl) ?_
      try go_wp2
      refine bodyPost_ret (zu (rs:=[.tmp 2,.cell 3 26,.tmp 4]) rfl (by simp) (.tmp (.cell ay 26 #[.int .i64 t105,.slice gu t106.length gj] (0,0) _ rfl kZ Try.underlying26 rfl (by kernel_rfl) (.tmp .nil)))) rfl ?_
      exact ⟨_,_,eR,aV (Kd.bf (Kd.iO (p:=⟨ay,1,none⟩) (Kd.iO (p:=⟨ay,0,none⟩) (Kd.bf fJ.z (fun k_ hk=>(⟨hk,hk.2.2.1⟩:_∧k_ ≠ ay))) (fun _ hk=>hk.2) (.int .i64 t105)) (fun _ hk=>hk.2) (.slice gu t106.length gj)) (fun _ hk=>⟨hk.1.1,hk.1.2.1⟩)),aR (Kd.aH (gR 1 (.slice gu t106.length gj) (gR 0 (.int .i64 t105) (tR bG aa))) (fun _ hk=>hk.1)),aA ah.z,aG (ag.ge ah.z) HB.z,aK HK.z⟩
     by_cases c43:(ef.length:Int) > 0
     case neg =>
      rw [if_neg c43] at H
      have JR:=decide_eq_false c43
      have aeh:decide (0 < ef.length)=false:=decide_eq_false (by omega)
      clear c43
      simp only [Option.some.injEq,Prod.mk.injEq] at H
      obtain ⟨rfl,rfl,rfl,rfl,rfl,rfl⟩:=H
      obtain ⟨_,_⟩:=nE jC
      obtain ⟨_,_⟩:=nE s6
      obtain ⟨_,_,_,_⟩:=as9 dB
      try go_wp2_with (first|(refine aT (f:=49) rfl ?_;refine gC (some 36) Try.func49 #[.pointer (some ⟨g,0,none⟩),.int .i64 24] ?_;(with_reducible refine (cw.calls g asZ kO at1 24 t127 t128 t129 w0 _ ?av ?ax IZ.z).mono ?_);(case av=>exact aA ah.z);(case ax=>exact aG (ag.ge ah.z) HB.z);rintro e fE ⟨rfl,hi,hb,hk⟩;refine ⟨_,rfl,?_⟩;replace bG:=k0 (Kd.aH (Kd.atM (ag.apart (show ag w0 _ g asZ kO at1 from aA ah.z) (aR bG.z) (by decide)) hk (fun _ h=>h.2)) (fun _ h=>h.1));replace fJ:=k0 (Kd.bf (Kd.nC (Kd.bf (ok:=fun k_=>(((w.heap.size≤k_))∧(some k_ ≠ (u7:Value).ownBlock∧(k_ ≠ ay∧(k_ ≠ at3∧k_ ≠ g))))) (aV fJ.z) (fun k_ aU=>(⟨aU,aU.2.2.2.2⟩:_∧k_ ≠ g))) hk (fun _ h=>h.2)) (fun _ h=>h.1));replace aa:=kK hk aa cy;replace dB:=kK hk dB s6;replace HK:=atm HK hk;replace HB:=k0 hb;replace ah:=k0 hi;obtain ⟨amf,aoW,rfl⟩:=Kd.b9 bG.z))
      replace bG:=k0 (Kd.di bG.z);replace fJ:=k0 (Kd.vQ fJ.z);replace aa:=k0 (dg aa.z);replace dB:=k0 (dg dB.z);replace ah:=k0 (ag.drew ah.z);replace HK:=k0 (wU HK.z);replace HB:=k0 (eZ HB.z)
      refine atG (n:=6) (S:=fun w'=>w'.cell? ⟨at3,0,none⟩=some (.int .i64 t105)∧w'.cell? ⟨at3,1,none⟩=some (.slice gu t106.length gj)) (ds:=[]) (ba 6 0) (by kernel_rfl) rfl rfl ⟨dU dB,ej dB⟩ (fun hHeld=>?_)
      generalize fE.drew=w66 at bG fJ aa dB ah HK HB hHeld ⊢
      refine jc (i:=0) (N:=some 53) (v:=?_) (a':=?_) (ba 6 1) rfl rfl (by kernel_rfl) (fun _ _ _ h=>h) (Or.inl ⟨by rfl,?_⟩) ?_ ?_
      rotate_left;· intro w';go_simp;with_reducible rfl
      rotate_left;· simp only [Act.put,zI,zZ,zS,bp,bH];rfl
      refine jc (i:=2) (N:=some 55) (v:=?_) (a':=?_) (ba 6 5) rfl rfl (by kernel_rfl) (fun _ _ _ h=>h) (Or.inl ⟨by rfl,?_⟩) ?_ ?_
      rotate_left;· intro w';go_simp;with_reducible rfl
      rotate_left;· simp only [Act.put,zI,zZ,zS,bp,bH];rfl
      refine jc (i:=3) (N:=some 2) (v:=?_) (a':=?_) (ba 6 13) rfl rfl (by kernel_rfl) (fun _ _ _ h=>h) (Or.inl ⟨by rfl,?_⟩) ?_ ?_
      rotate_left;· intro w';go_simp;with_reducible rfl
      rotate_left;· simp only [Act.put,zI,zZ,zS,bp,bH];rfl
      refine oQ (i:=1) (N:=some 54) (v:=?_) (a':=?_) (ba 6 15) rfl rfl (by kernel_rfl) (fun _ _ _ h=>h) (Or.inl ⟨by rfl,?_⟩) hHeld ?_ ?_
      rotate_left;· rintro w' ⟨s0,s1⟩;go_simp;with_reducible rfl
      rotate_left;· simp only [Act.put,zI,zZ,zS,bp,bH];rfl
      refine atw (i:=4) (N:=none) (ba 6 31) rfl rfl (by kernel_rfl) (by decide) (fun K hK=>?_)
      obtain ⟨_,_⟩:=uD aa
      have aro:=jC.z
      have aqD:=yL.z
      have arA:=ej aa
      have apH:=bF aa 1
      have arp:=jC.z
      have aqE:=yL.z
      refine lf (w1:=?_) (by rfl) rfl ?_ ?_
      rotate_left;· go_simp;rfl
      refine hK.out _ _ ⟨((cell_far (p:=⟨ay,_,none⟩) jC.z _).trans (((cell_far (p:=⟨ay,_,none⟩) jC.z _).trans (hHeld.1)))),((cell_far (p:=⟨ay,_,none⟩) jC.z _).trans (((cell_far (p:=⟨ay,_,none⟩) jC.z _).trans (hHeld.2))))⟩ (fun hHeld=>?_)
      clear hK K
      refine jc (i:=5) (N:=some 4) (v:=?_) (a':=?_) (ba 6 63) rfl rfl (by kernel_rfl) (fun _ _ _ h=>h) (Or.inl ⟨by rfl,?_⟩) ?_ ?_
      rotate_left;· intro w';go_simp;with_reducible rfl
      rotate_left;· simp only [Act.put,zI,zZ,zS,bp,bH];rfl
      refine gY (by kernel_rfl) ?_
      try go_wp2
      refine bodyPost_ret (zu (rs:=[.tmp 2,.cell 3 26,.tmp 4]) rfl (by simp) (.tmp (.cell ay 26 #[.int .i64 t105,.slice gu t106.length gj] (0,0) _ rfl kZ Try.underlying26 rfl (by kernel_rfl) (.tmp .nil)))) rfl ?_
      exact ⟨_,_,eR,aV (Kd.bf (Kd.iO (p:=⟨ay,1,none⟩) (Kd.iO (p:=⟨ay,0,none⟩) (Kd.bf fJ.z (fun k_ hk=>(⟨hk,hk.2.2.1⟩:_∧k_ ≠ ay))) (fun _ hk=>hk.2) (.int .i64 t105)) (fun _ hk=>hk.2) (.slice gu t106.length gj)) (fun _ hk=>⟨hk.1.1,hk.1.2.1⟩)),aR (Kd.aH (gR 1 (.slice gu t106.length gj) (gR 0 (.int .i64 t105) (tR bG aa))) (fun _ hk=>hk.1)),aA ah.z,aG (ag.ge ah.z) HB.z,aK HK.z⟩
     rw [if_pos c43] at H
     have JR:=decide_eq_true c43
     have aeh:decide (0 < ef.length)=true:=decide_eq_true (by omega)
     clear c43
     obtain ⟨xC,yP⟩:=nY (([t102,(-1)]:List Int):List Int)
     replace H:((gD.f asZ t128 t129 xC).bind fun td=>(if 0 < (ef.length:Int) then (some (t102,t105,t106,(ef.set (0:Int).toNat td.1),td.2.1,td.2.2)) else (none)))=some (r1,r2,r3,r4,r5,r6):=rH yP.z H
     replace H:=bS H;obtain ⟨⟨t136,t137,t138⟩,A44,H⟩:=H
     dsimp only at H
     replace H:=iS H;obtain ⟨c45,H⟩:=H
     have JS:=decide_eq_true c45
     have anF:decide (0 < ef.length)=true:=decide_eq_true (by omega)
     clear c45
     obtain ⟨Bx,D7⟩:=nY (ef.set (0:Int).toNat t136:List Int)
     replace H:(some (t102,t105,t106,Bx,t137,t138))=some (r1,r2,r3,r4,r5,r6):=rH D7.z H
     simp only [Option.some.injEq,Prod.mk.injEq] at H
     obtain ⟨rfl,rfl,rfl,rfl,rfl,rfl⟩:=H
     obtain ⟨_,_⟩:=nE jC
     obtain ⟨_,_⟩:=nE s6
     obtain ⟨_,_,_,_⟩:=as9 dB
     try go_wp2_with (first|(refine aT (f:=49) rfl ?_;refine gC (some 36) Try.func49 #[.pointer (some ⟨g,0,none⟩),.int .i64 24] ?_;(with_reducible refine (cw.calls g asZ kO at1 24 t127 t128 t129 w0 _ ?av ?ax IZ.z).mono ?_);(case av=>exact aA ah.z);(case ax=>exact aG (ag.ge ah.z) HB.z);rintro e RF ⟨rfl,hi,hb,hk⟩;refine ⟨_,rfl,?_⟩;replace bG:=k0 (Kd.aH (Kd.atM (ag.apart (show ag w0 _ g asZ kO at1 from aA ah.z) (aR bG.z) (by decide)) hk (fun _ h=>h.2)) (fun _ h=>h.1));replace fJ:=k0 (Kd.bf (Kd.nC (Kd.bf (ok:=fun k_=>(((w.heap.size≤k_))∧(some k_ ≠ (u7:Value).ownBlock∧(k_ ≠ ay∧(k_ ≠ at3∧k_ ≠ g))))) (aV fJ.z) (fun k_ aU=>(⟨aU,aU.2.2.2.2⟩:_∧k_ ≠ g))) hk (fun _ h=>h.2)) (fun _ h=>h.1));replace aa:=kK hk aa cy;replace dB:=kK hk dB s6;replace HK:=atm HK hk;replace HB:=k0 hb;replace ah:=k0 hi;obtain ⟨yB,auC,rfl⟩:=Kd.b9 bG.z)|(refine aX (N:=50) rfl ?_;refine jM 2 (N:=50) (xs:=([t102,(-1)]:List Int)) (inner:=[.int .i64 t102,.int .i64 (-1)]) (aJ.one (show Kd.M (Kd.int .i64) _ _ _ t102 [.int .i64 t102] from rfl) (aJ.one (show Kd.M (Kd.int .i64) _ _ _ (-1) [.int .i64 (-1)] from rfl) (aJ.none _ _))) ?_;intro akU ZJ CN hb bR atf;clear bR atf;(first|rw [← yP.z] at CN|(simp only [Int.reduceToNat] at CN;rw [← yP.z] at CN));replace fJ:=fl fJ (Kd.bh CN) hb;have sW:=k0 (Kd.cg (Kd.cU (Kd.rY (M:=fun k_=>(w.heap.size≤k_)) CN (b_ (aK HK.z)) (fun k_ h_=>h_)) (Kd.bV (aR bG.z))) (b_ (aK HK.z)));replace bG:=eO bG (Kd.bh CN) hb;replace aa:=kB aa hb;replace dB:=kB dB hb;replace HK:=eC HK hb;replace HB:=k0 (cu (aG (ag.ge ah.z) HB.z) hb);replace ah:=k0 (ag.below (aA ah.z) hb);clear hb CN;obtain ⟨Du,Ew,rfl⟩:=Kd.b9 sW.z)|(refine aT (f:=51) rfl ?_;refine gC (some 51) Try.func51 #[.pointer (some ⟨g,0,none⟩),.slice Du xC.length Ew] ?_;(with_reducible refine (gD.calls g asZ t128 t129 _ _ xC t136 t137 t138 w0 _ ?av ?ax ?bM ?bT ?iG A44.z).mono ?_);(case av=>exact aA ah.z);(case ax=>exact aG (ag.ge ah.z) HB.z);(case bM=>exact aC ((Kd.bD sW.z).2.2));(case bT=>exact (Kd.bD sW.z).2.1);(case iG=>exact yb (ag.lK ah.z sW.z (by decide)));rintro e RG ⟨rfl,hi,hb,hk⟩;refine ⟨_,rfl,?_⟩;replace bG:=k0 (Kd.aH (Kd.atM (ag.apart (show ag w0 _ g asZ t128 t129 from aA ah.z) (aR bG.z) (by decide)) hk (fun _ h=>h.2)) (fun _ h=>h.1));replace fJ:=k0 (Kd.bf (Kd.nC (Kd.bf (ok:=fun k_=>((((w.heap.size≤k_))∧(some k_ ≠ (.slice yB ef.length auC:Value).ownBlock∧(k_ ≠ ay∧(k_ ≠ at3∧k_ ≠ g))))∧some k_ ≠ (.slice Du xC.length Ew:Value).ownBlock)) (aV fJ.z) (fun k_ aU=>(⟨aU,aU.1.2.2.2.2⟩:_∧k_ ≠ g))) hk (fun _ h=>h.2)) (fun _ h=>h.1));replace aa:=kK hk aa cy;replace dB:=kK hk dB s6;replace sW:=k0 (Kd.aH (Kd.atM (ag.apart (show ag w0 _ g asZ t128 t129 from aA ah.z) (aR sW.z) (by decide)) hk (fun _ h=>h.2)) (fun _ h=>h.1));replace HK:=atm HK hk;replace HB:=k0 hb;replace ah:=k0 hi;have yh:0≤(0:Int):=(by omega);have yl:(0:Int) < ((ef.length:Int):Int):=oD;have ar4:(0 < ef.length)=True:=eq_true (by omega);obtain ⟨r9,JY,Gt,Gx,OM,aeW,FA⟩:=Kd.aun bG.z (by omega);(first|cases Gt|(injection Gt with atd atk dM;(first|subst atd|(injection atd with atd;subst atd));subst dM;clear atk));have Sj:=k0 Gx;have Sl:=k0 FA;clear Gx OM FA;obtain ⟨KH,J_⟩:=Kd.nA 0 bG.z (0:Int) yh yl;(try rw [show ((0:Int)).toNat=0 from rfl] at KH);(try simp only [Nat.reduceMul,Nat.zero_mul,Nat.zero_add,Nat.reduceAdd] at KH);(try rw [show ((0:Int)).toNat=0 from rfl] at J_);(try simp only [Nat.reduceMul,Nat.zero_mul,Nat.zero_add,Nat.reduceAdd] at J_);replace yh:=eT yh;replace yl:=eT yl;obtain ⟨Yc,Yd⟩:=Kd.nA 0 bG.z (0:Int) (by omega) oD;(try simp only [Int.reduceToNat,Int.toNat_zero,Int.toNat_ofNat,Nat.reduceMul,Nat.zero_mul,Nat.zero_add] at Yc Yd);(try rw [show ((0:Int)).toNat=0 from rfl] at Yc);(try rw [show ((0:Int)).toNat=0 from rfl] at Yd);have MF:=Kd.s8 bG.z (0:Int) t136)|((with_reducible refine Gv (t:=2) (p:=52) rfl ?_);refine Il (t:=2) (p:=52) (v:=?asQ) (w1:=(RG.setCell ⟨r9,(0:Int).toNat,none⟩ (.int .i64 t136))) ?hg ?ho ?hn ?hr ?_;(case ho=>rfl);(case hg=>rfl);(case hn=>rfl);(case hr=>first|(go_simp;done)|(go_simp;rfl));intro Bq hw;have hg:RG.grownBy Bq (some r9):=(by rw [hw];exact MF.2);have sx:Kd.R (Kd.int .i64) 2 Bq w.heap.size (fun k_=>(w.heap.size≤k_)∧some k_ ≠ (.slice Du xC.length Ew:Value).ownBlock) (.slice (some ⟨r9,0,none⟩) ef.length auC) Bx:=(by rw [hw,D7.z];exact MF.1);clear MF;replace fJ:=k0 (Kd.JD (v:=(.slice (some ⟨r9,0,none⟩) ef.length auC)) (v1:=(.slice (some ⟨r9,0,none⟩) ef.length auC)) (ok:=(fun k_=>(w.heap.size≤k_)∧some k_ ≠ (.slice Du xC.length Ew:Value).ownBlock∧k_ ≠ ay∧k_ ≠ at3∧k_ ≠ g)) (aV (Kd.bf fJ.z (fun _ hk=>⟨⟨hk.1.1,⟨hk.2,⟨hk.1.2.2.1,⟨hk.1.2.2.2.1,hk.1.2.2.2.2⟩⟩⟩⟩,hk.1.2.1⟩))) hg (.inl rfl));replace aa:=k0 (fL (aB aa.z) hg (Kd.jh bG.z aa.z (by decide)));replace dB:=k0 (fL (aB dB.z) hg (Kd.jh bG.z dB.z (by decide)));replace ah:=k0 (ag.grown (aA ah.z) hg (ag.lK ah.z bG.z (by decide)));replace sW:=k0 (Kd.s7 (v:=(.slice (some ⟨r9,0,none⟩) ef.length auC)) (v1:=(.slice (some ⟨r9,0,none⟩) ef.length auC)) (ok:=(fun k_=>(w.heap.size≤k_))) (aR (Kd.aH sW.z (fun _ hk=>⟨hk.1.1,hk.2⟩))) hg (.inl rfl));replace HB:=k0 ((by rw [hw];exact o9 (HB.z) (Nat.le_trans HL.z Sj.out):Below w0.heap.size w0 Bq));replace HK:=k0 (bx.trans (aK HK.z) (bx.auk hg g) (Kd.vN bG.z));replace bG:=k0 sx;clear hg hw sx))
     replace bG:=k0 (Kd.di bG.z);replace fJ:=k0 (Kd.vQ fJ.z);replace sW:=k0 (Kd.di sW.z);replace aa:=k0 (dg aa.z);replace dB:=k0 (dg dB.z);replace ah:=k0 (ag.drew ah.z);replace HK:=k0 (wU HK.z);replace HB:=k0 (eZ HB.z)
     refine atG (n:=6) (S:=fun w'=>w'.cell? ⟨at3,0,none⟩=some (.int .i64 t105)∧w'.cell? ⟨at3,1,none⟩=some (.slice gu t106.length gj)) (ds:=[]) (ba 6 0) (by kernel_rfl) rfl rfl ⟨dU dB,ej dB⟩ (fun hHeld=>?_)
     generalize Bq.drew=w58 at bG fJ sW aa dB ah HK HB hHeld ⊢
     refine jc (i:=0) (N:=some 53) (v:=?_) (a':=?_) (ba 6 1) rfl rfl (by kernel_rfl) (fun _ _ _ h=>h) (Or.inl ⟨by rfl,?_⟩) ?_ ?_
     rotate_left;· intro w';go_simp;with_reducible rfl
     rotate_left;· simp only [Act.put,zI,zZ,zS,bp,bH];rfl
     refine jc (i:=2) (N:=some 55) (v:=?_) (a':=?_) (ba 6 5) rfl rfl (by kernel_rfl) (fun _ _ _ h=>h) (Or.inl ⟨by rfl,?_⟩) ?_ ?_
     rotate_left;· intro w';go_simp;with_reducible rfl
     rotate_left;· simp only [Act.put,zI,zZ,zS,bp,bH];rfl
     refine jc (i:=3) (N:=some 2) (v:=?_) (a':=?_) (ba 6 13) rfl rfl (by kernel_rfl) (fun _ _ _ h=>h) (Or.inl ⟨by rfl,?_⟩) ?_ ?_
     rotate_left;· intro w';go_simp;with_reducible rfl
     rotate_left;· simp only [Act.put,zI,zZ,zS,bp,bH];rfl
     refine oQ (i:=1) (N:=some 54) (v:=?_) (a':=?_) (ba 6 15) rfl rfl (by kernel_rfl) (fun _ _ _ h=>h) (Or.inl ⟨by rfl,?_⟩) hHeld ?_ ?_
     rotate_left;· rintro w' ⟨s0,s1⟩;go_simp;with_reducible rfl
     rotate_left;· simp only [Act.put,zI,zZ,zS,bp,bH];rfl
     refine atw (i:=4) (N:=none) (ba 6 31) rfl rfl (by kernel_rfl) (by decide) (fun K hK=>?_)
     obtain ⟨_,_⟩:=uD aa
     have arl:=jC.z
     have aqB:=yL.z
     have arz:=ej aa
     have apG:=bF aa 1
     have arn:=jC.z
     have aqC:=yL.z
     refine lf (w1:=?_) (by rfl) rfl ?_ ?_
     rotate_left;· go_simp;rfl
     refine hK.out _ _ ⟨((cell_far (p:=⟨ay,_,none⟩) jC.z _).trans (((cell_far (p:=⟨ay,_,none⟩) jC.z _).trans (hHeld.1)))),((cell_far (p:=⟨ay,_,none⟩) jC.z _).trans (((cell_far (p:=⟨ay,_,none⟩) jC.z _).trans (hHeld.2))))⟩ (fun hHeld=>?_)
     clear hK K
     refine jc (i:=5) (N:=some 4) (v:=?_) (a':=?_) (ba 6 63) rfl rfl (by kernel_rfl) (fun _ _ _ h=>h) (Or.inl ⟨by rfl,?_⟩) ?_ ?_
     rotate_left;· intro w';go_simp;with_reducible rfl
     rotate_left;· simp only [Act.put,zI,zZ,zS,bp,bH];rfl
     refine gY (by kernel_rfl) ?_
     try go_wp2
     refine bodyPost_ret (zu (rs:=[.tmp 2,.cell 3 26,.tmp 4]) rfl (by simp) (.tmp (.cell ay 26 #[.int .i64 t105,.slice gu t106.length gj] (0,0) _ rfl kZ Try.underlying26 rfl (by kernel_rfl) (.tmp .nil)))) rfl ?_
     exact ⟨_,_,eR,aV (Kd.bf (Kd.iO (p:=⟨ay,1,none⟩) (Kd.iO (p:=⟨ay,0,none⟩) (Kd.bf fJ.z (fun k_ hk=>(⟨hk,hk.1.2.2.1⟩:_∧k_ ≠ ay))) (fun _ hk=>hk.2) (.int .i64 t105)) (fun _ hk=>hk.2) (.slice gu t106.length gj)) (fun _ hk=>⟨hk.1.1.1,hk.1.2⟩)),aR (Kd.aH (gR 1 (.slice gu t106.length gj) (gR 0 (.int .i64 t105) (tR bG aa))) (fun _ hk=>hk.1.1)),aA ah.z,aG (ag.ge ah.z) HB.z,aK HK.z⟩
    replace H:=iS H;obtain ⟨c33,H⟩:=H
    have ab1:=k0 c33
    clear c33
    obtain ⟨nU,vM⟩:=nY (ef ++ [1]:List Int)
    replace H:(some (t102,t105,t106,nU,t128,t129))=some (r1,r2,r3,r4,r5,r6):=rH vM.z H
    simp only [Option.some.injEq,Prod.mk.injEq] at H
    obtain ⟨rfl,rfl,rfl,rfl,rfl,rfl⟩:=H
    obtain ⟨_,_⟩:=nE jC
    obtain ⟨_,_⟩:=nE s6
    obtain ⟨_,_,_,_⟩:=as9 dB
    try go_wp2_with (first|(refine aT (f:=49) rfl ?_;refine gC (some 36) Try.func49 #[.pointer (some ⟨g,0,none⟩),.int .i64 24] ?_;(with_reducible refine (cw.calls g asZ kO at1 24 t127 t128 t129 w0 _ ?av ?ax IZ.z).mono ?_);(case av=>exact aA ah.z);(case ax=>exact aG (ag.ge ah.z) HB.z);rintro e ZH ⟨rfl,hi,hb,hk⟩;refine ⟨_,rfl,?_⟩;replace bG:=k0 (Kd.aH (Kd.atM (ag.apart (show ag w0 _ g asZ kO at1 from aA ah.z) (aR bG.z) (by decide)) hk (fun _ h=>h.2)) (fun _ h=>h.1));replace fJ:=k0 (Kd.bf (Kd.nC (Kd.bf (ok:=fun k_=>(((w.heap.size≤k_))∧(some k_ ≠ (u7:Value).ownBlock∧(k_ ≠ ay∧(k_ ≠ at3∧k_ ≠ g))))) (aV fJ.z) (fun k_ aU=>(⟨aU,aU.2.2.2.2⟩:_∧k_ ≠ g))) hk (fun _ h=>h.2)) (fun _ h=>h.1));replace aa:=kK hk aa cy;replace dB:=kK hk dB s6;replace HK:=atm HK hk;replace HB:=k0 hb;replace ah:=k0 hi)|((with_reducible refine ji (b:=.append) (xs:=#[.tmp 39,.tmp 40]) rfl ?_);at_builtin;refine Kd.oh (Kd.int .i64) w.heap.size rfl (.tmp 39) (.tmp 40) 29 2 (.int .i64 0) 8 rfl Try.underlying29 ju rfl (by decide) (by omega) u7 ef 1 [.int .i64 1] (fun k_=>(w.heap.size≤k_)) (fun _=>False) rfl rfl ?aP (fun _ hk=>hk.elim) ?aF ?aO (Below.refl _ _) ?aS ?aL ?_;(case aP=>exact rfl);(case aF=>exact (fun k_ hk=>(Nat.le_trans (b_ (aK HK.z)) hk)));(case aO=>exact (aR bG.z));(case aS=>exact (b_ (aK HK.z)));(case aL=>have:=ab1.out;omega);intro gp ZI ho hb hg a_;rw [← vM.z] at ho;replace fJ:=k0 (Kd.JD (ok:=(fun k_=>(w.heap.size≤k_)∧k_ ≠ ay∧k_ ≠ at3∧k_ ≠ g)) (aV (Kd.bf fJ.z (fun _ hk=>⟨⟨hk.1,⟨hk.2.2.1,⟨hk.2.2.2.1,hk.2.2.2.2⟩⟩⟩,hk.2.1⟩))) hg a_);replace aa:=k0 (fL (aB aa.z) hg (Kd.jh bG.z aa.z (by decide)));replace dB:=k0 (fL (aB dB.z) hg (Kd.jh bG.z dB.z (by decide)));replace HB:=k0 (qC (aG (ag.ge ah.z) HB.z) HL.z hb);replace ah:=k0 (ag.grown (aA ah.z) hg (ag.lK ah.z bG.z (by decide)));replace HK:=k0 (bx.trans (aK HK.z) (bx.auk hg g) (Kd.vN bG.z));have o7:=k0 ho;clear bG;clear ho hb hg a_))
    replace fJ:=k0 (Kd.vQ fJ.z);replace o7:=k0 (Kd.di o7.z);replace aa:=k0 (dg aa.z);replace dB:=k0 (dg dB.z);replace ah:=k0 (ag.drew ah.z);replace HK:=k0 (wU HK.z);replace HB:=k0 (eZ HB.z)
    refine atG (n:=6) (S:=fun w'=>w'.cell? ⟨at3,0,none⟩=some (.int .i64 t105)∧w'.cell? ⟨at3,1,none⟩=some (.slice gu t106.length gj)) (ds:=[]) (ba 6 0) (by kernel_rfl) rfl rfl ⟨dU dB,ej dB⟩ (fun hHeld=>?_)
    generalize ZI.drew=Db at fJ o7 aa dB ah HK HB hHeld ⊢
    refine jc (i:=0) (N:=some 53) (v:=?_) (a':=?_) (ba 6 1) rfl rfl (by kernel_rfl) (fun _ _ _ h=>h) (Or.inl ⟨by rfl,?_⟩) ?_ ?_
    rotate_left;· intro w';go_simp;with_reducible rfl
    rotate_left;· simp only [Act.put,zI,zZ,zS,bp,bH];rfl
    refine jc (i:=2) (N:=some 55) (v:=?_) (a':=?_) (ba 6 5) rfl rfl (by kernel_rfl) (fun _ _ _ h=>h) (Or.inl ⟨by rfl,?_⟩) ?_ ?_
    rotate_left;· intro w';go_simp;with_reducible rfl
    rotate_left;· simp only [Act.put,zI,zZ,zS,bp,bH];rfl
    refine jc (i:=3) (N:=some 2) (v:=?_) (a':=?_) (ba 6 13) rfl rfl (by kernel_rfl) (fun _ _ _ h=>h) (Or.inl ⟨by rfl,?_⟩) ?_ ?_
    rotate_left;· intro w';go_simp;with_reducible rfl
    rotate_left;· simp only [Act.put,zI,zZ,zS,bp,bH];rfl
    refine oQ (i:=1) (N:=some 54) (v:=?_) (a':=?_) (ba 6 15) rfl rfl (by kernel_rfl) (fun _ _ _ h=>h) (Or.inl ⟨by rfl,?_⟩) hHeld ?_ ?_
    rotate_left;· rintro w' ⟨s0,s1⟩;go_simp;with_reducible rfl
    rotate_left;· simp only [Act.put,zI,zZ,zS,bp,bH];rfl
    refine atw (i:=4) (N:=none) (ba 6 31) rfl rfl (by kernel_rfl) (by decide) (fun K hK=>?_)
    obtain ⟨_,_⟩:=uD aa
    have arj:=jC.z
    have aqz:=yL.z
    have ary:=ej aa
    have apF:=bF aa 1
    have ark:=jC.z
    have aqA:=yL.z
    refine lf (w1:=?_) (by rfl) rfl ?_ ?_
    rotate_left;· go_simp;rfl
    refine hK.out _ _ ⟨((cell_far (p:=⟨ay,_,none⟩) jC.z _).trans (((cell_far (p:=⟨ay,_,none⟩) jC.z _).trans (hHeld.1)))),((cell_far (p:=⟨ay,_,none⟩) jC.z _).trans (((cell_far (p:=⟨ay,_,none⟩) jC.z _).trans (hHeld.2))))⟩ (fun hHeld=>?_)
    clear hK K
    refine jc (i:=5) (N:=some 4) (v:=?_) (a':=?_) (ba 6 63) rfl rfl (by kernel_rfl) (fun _ _ _ h=>h) (Or.inl ⟨by rfl,?_⟩) ?_ ?_
    rotate_left;· intro w';go_simp;with_reducible rfl
    rotate_left;· simp only [Act.put,zI,zZ,zS,bp,bH];rfl
    refine gY (by kernel_rfl) ?_
    try go_wp2
    refine bodyPost_ret (zu (rs:=[.tmp 2,.cell 3 26,.tmp 4]) rfl (by simp) (.tmp (.cell ay 26 #[.int .i64 t105,.slice gu t106.length gj] (0,0) _ rfl kZ Try.underlying26 rfl (by kernel_rfl) (.tmp .nil)))) rfl ?_
    exact ⟨_,_,eR,aV (Kd.bf (Kd.iO (p:=⟨ay,1,none⟩) (Kd.iO (p:=⟨ay,0,none⟩) (Kd.bf fJ.z (fun k_ hk=>(⟨hk,hk.1.2.1⟩:_∧k_ ≠ ay))) (fun _ hk=>hk.2) (.int .i64 t105)) (fun _ hk=>hk.2) (.slice gu t106.length gj)) (fun _ hk=>⟨hk.1.1.1,hk.1.2⟩)),aR (Kd.aH (gR 1 (.slice gu t106.length gj) (gR 0 (.int .i64 t105) (tR o7 aa))) (fun _ hk=>hk.1)),aA ah.z,aG (ag.ge ah.z) HB.z,aK HK.z⟩
   obtain ⟨k9,si⟩:∃ j_:Int,(mx t102 1)=j_:=⟨_,rfl⟩
   replace H:(if (k9)=0 then (none) else ((cw.f asZ kO at1 (k9)).bind fun kV=>((gD.f asZ kV.2.1 kV.2.2 (([1,Int.tmod 1 (k9),kV.1]:List Int))).bind fun ou=>(if ef.length < 17592186044416 then (iJ.l0 k1 t102 (ef ++ [ou.1]) (wrap64 (dA+1)) asZ ou.2.1 ou.2.2 t105 t106) else (none)))))=some (r1,r2,r3,r4,r5,r6):=by first|(rw [si] at H;exact H)|(simp only [si] at H ⊢;exact H)
   have ap_:(if t102 < 1 then 1 else t102)=k9:=si
   by_cases c16:(k9)=0
   case neg =>
    rw [if_neg c16] at H
    have auo:=beq_eq_false_iff_ne.mpr c16
    have JO:=bne_iff_ne.mpr c16
    replace H:=bS H;obtain ⟨⟨t115,t116,t117⟩,A18,H⟩:=H
    dsimp only at H
    obtain ⟨lq,og⟩:=nY (([1,Int.tmod 1 (k9),t115]:List Int):List Int)
    replace H:((gD.f asZ t116 t117 lq).bind fun ou=>(if ef.length < 17592186044416 then (iJ.l0 k1 t102 (ef ++ [ou.1]) (wrap64 (dA+1)) asZ ou.2.1 ou.2.2 t105 t106) else (none)))=some (r1,r2,r3,r4,r5,r6):=rH og.z H
    replace H:=bS H;obtain ⟨⟨t121,t122,t123⟩,Fp,H⟩:=H
    dsimp only at H
    replace H:=iS H;obtain ⟨c20,H⟩:=H
    have abY:=k0 c20
    clear c20
    obtain ⟨Dl,FP⟩:=nY (ef ++ [t121]:List Int)
    replace H:(iJ.l0 k1 t102 Dl (wrap64 (dA+1)) asZ t122 t123 t105 t106)=some (r1,r2,r3,r4,r5,r6):=rH FP.z H
    have H':=k0 H
    clear H
    obtain ⟨_,_⟩:=nE jC
    obtain ⟨_,_⟩:=nE s6
    obtain ⟨_,_,_,_⟩:=as9 dB
    try go_wp2
    replace bG:=k0 (Kd.di bG.z);replace fJ:=k0 (Kd.vQ fJ.z);replace aa:=k0 (dg aa.z);replace dB:=k0 (dg dB.z);replace ah:=k0 (ag.drew ah.z);replace HK:=k0 (wU HK.z);replace HB:=k0 (eZ HB.z)
    refine atG (n:=14) (S:=fun w'=>True) (ds:=[]) (ba 14 0) (by kernel_rfl) rfl rfl trivial (fun hHeld=>?_);refine jX iJ.Bl iJ.Aj (fun aj bP=>?_)
    generalize wr.drew=ZF at bG fJ aa dB ah HK HB hHeld ⊢
    refine pu 0 (some 22) (ba 14 1) aj (h:=?_)
    refine pu 1 (some 23) (ba 14 3) aj (h:=?_)
    refine pu 2 (some 24) (ba 14 7) aj (h:=?_)
    refine pu 3 (some 25) (ba 14 15) aj (h:=?_)
    refine pu 4 (some 26) (ba 14 31) aj (h:=?_)
    refine pu 5 (some 27) (ba 14 63) aj (h:=?_)
    refine pu 6 (some 28) (ba 14 127) aj (h:=?_)
    refine pu 7 (some 29) (ba 14 255) aj (h:=?_)
    refine atw (i:=8) (N:=some 30) (ba 14 511) rfl rfl (atq aj.out (by kernel_rfl)) (by decide) (fun K hK=>?_)
    refine mI Try.func49 (by kernel_rfl) rfl #[.pointer (some ⟨g,0,none⟩),.int .i64 k9] (by rfl) rfl rfl (by (try simp only [List.map_toArray,List.map_cons,List.map_nil]);first|done|(simp only [si];rfl)|rfl|(simp only [List.length_drop,List.length_take];rfl)) ?_
    with_reducible refine (cw.calls g asZ kO at1 k9 t115 t116 t117 w0 _ ?av ?ax A18.z).mono ?_
    (case av=>exact aA ah.z)
    (case ax=>exact aG (ag.ge ah.z) HB.z)
    rintro e Ix ⟨rfl,hi,hb,hk⟩
    refine ⟨_,rfl,?_⟩
    replace bG:=k0 (Kd.aH (Kd.atM (ag.apart (show ag w0 _ g asZ kO at1 from aA ah.z) (aR bG.z) (by decide)) hk (fun _ h=>h.2)) (fun _ h=>h.1));replace fJ:=k0 (Kd.bf (Kd.nC (Kd.bf (ok:=fun k_=>(((w.heap.size≤k_))∧(some k_ ≠ (u7:Value).ownBlock∧(k_ ≠ ay∧(k_ ≠ at3∧k_ ≠ g))))) (aV fJ.z) (fun k_ aU=>(⟨aU,aU.2.2.2.2⟩:_∧k_ ≠ g))) hk (fun _ h=>h.2)) (fun _ h=>h.1));replace aa:=kK hk aa cy;replace dB:=kK hk dB s6;replace HK:=atm HK hk;replace HB:=k0 hb;replace ah:=k0 hi
    refine hK.out _ _ trivial (fun hHeld=>?_)
    clear hK K
    refine hJ (a':=?_) ?_ ?_
    rotate_left;· show Act.put _ (some 30) _=_;simp only [Act.put,zI,zZ,zS,bp,bH];rfl
    refine atw (i:=9) (N:=some 31) (ba 14 1023) rfl rfl (atq aj.out (by kernel_rfl)) (by decide) (fun K hK=>?_)
    refine LU 2 (N:=31) (xs:=([1,Int.tmod 1 (k9),t115]:List Int)) (inner:=[.int .i64 1,.int .i64 (Int.tmod 1 (k9)),.int .i64 t115]) (aJ.one (show Kd.M (Kd.int .i64) _ _ _ 1 [.int .i64 1] from rfl) (aJ.one (show Kd.M (Kd.int .i64) _ _ _ (Int.tmod 1 (k9)) [.int .i64 (Int.tmod 1 (k9))] from rfl) (aJ.one (show Kd.M (Kd.int .i64) _ _ _ t115 [.int .i64 t115] from rfl) (aJ.none _ _)))) ?_
    intro tP Ff CM hb bR atf
    clear bR atf
    (first|rw [← og.z] at CM|(simp only [Int.reduceToNat] at CM;rw [← og.z] at CM))
    replace fJ:=fl fJ (Kd.bh CM) hb;have lS:=k0 (Kd.cg (Kd.cU (Kd.rY (M:=fun k_=>(w.heap.size≤k_)) CM (b_ (aK HK.z)) (fun k_ h_=>h_)) (Kd.bV (aR bG.z))) (b_ (aK HK.z)));replace bG:=eO bG (Kd.bh CM) hb;replace aa:=kB aa hb;replace dB:=kB dB hb;replace HK:=eC HK hb;replace HB:=k0 (cu (aG (ag.ge ah.z) HB.z) hb);replace ah:=k0 (ag.below (aA ah.z) hb)
    clear hb CM
    obtain ⟨xH,uA,Aw⟩:=Kd.b9 lS.z
    (first|subst Aw|(injection Aw with atu jq fc;have jr:=atu.symm;have js:=fc.symm;clear atu jq fc;subst jr;subst js))
    refine hK.out _ _ trivial (fun hHeld=>?_)
    clear hK K
    refine hJ (a':=?_) ?_ ?_
    rotate_left;· show Act.put _ (some 31) _=_;simp only [Act.put,zI,zZ,zS,bp,bH];rfl
    refine atw (i:=10) (N:=some 32) (ba 14 2047) rfl rfl (atq aj.out (by kernel_rfl)) (by decide) (fun K hK=>?_)
    refine mI Try.func51 (by kernel_rfl) rfl #[.pointer (some ⟨g,0,none⟩),.slice xH lq.length uA] (by rfl) rfl rfl gm ?_
    with_reducible refine (gD.calls g asZ t116 t117 _ _ lq t121 t122 t123 w0 _ ?av ?ax ?bM ?bT ?iG Fp.z).mono ?_
    (case av=>exact aA ah.z)
    (case ax=>exact aG (ag.ge ah.z) HB.z)
    (case bM=>exact aC ((Kd.bD lS.z).2.2))
    (case bT=>exact (Kd.bD lS.z).2.1)
    (case iG=>exact yb (ag.lK ah.z lS.z (by decide)))
    rintro e Iy ⟨rfl,hi,hb,hk⟩
    refine ⟨_,rfl,?_⟩
    replace bG:=k0 (Kd.aH (Kd.atM (ag.apart (show ag w0 _ g asZ t116 t117 from aA ah.z) (aR bG.z) (by decide)) hk (fun _ h=>h.2)) (fun _ h=>h.1));replace fJ:=k0 (Kd.bf (Kd.nC (Kd.bf (ok:=fun k_=>((((w.heap.size≤k_))∧(some k_ ≠ (u7:Value).ownBlock∧(k_ ≠ ay∧(k_ ≠ at3∧k_ ≠ g))))∧some k_ ≠ (.slice xH lq.length uA:Value).ownBlock)) (aV fJ.z) (fun k_ aU=>(⟨aU,aU.1.2.2.2.2⟩:_∧k_ ≠ g))) hk (fun _ h=>h.2)) (fun _ h=>h.1));replace aa:=kK hk aa cy;replace dB:=kK hk dB s6;replace lS:=k0 (Kd.aH (Kd.atM (ag.apart (show ag w0 _ g asZ t116 t117 from aA ah.z) (aR lS.z) (by decide)) hk (fun _ h=>h.2)) (fun _ h=>h.1));replace HK:=atm HK hk;replace HB:=k0 hb;replace ah:=k0 hi
    refine hK.out _ _ trivial (fun hHeld=>?_)
    clear hK K
    refine hJ (a':=?_) ?_ ?_
    rotate_left;· show Act.put _ (some 32) _=_;simp only [Act.put,zI,zZ,zS,bp,bH];rfl
    refine atw (i:=11) (N:=some 33) (ba 14 4095) rfl rfl (atq aj.out (by kernel_rfl)) (by decide) (fun K hK=>?_)
    refine Iu (w1:=?_) (v:=?_) (by rfl) rfl ?_ ?_
    rotate_left 2
    ·go_simp
     constructor
     ·rfl
     ·rfl
    refine hK.out _ _ trivial (fun hHeld=>?_)
    clear hK K
    refine hJ (a':=?_) ?_ ?_
    rotate_left;· show Act.put _ (some 33) _=_;simp only [Act.put,zI,zZ,zS,bp,bH];rfl
    refine atw (i:=12) (N:=some 34) (ba 14 8191) rfl rfl (atq aj.out (by kernel_rfl)) (by decide) (fun K hK=>?_)
    refine Kd.Ju (Kd.int .i64) w.heap.size (by rfl) (.tmp 22) (.tmp 33) 29 2 (.int .i64 0) 8 rfl Try.underlying29 ju rfl (by decide) (by omega) u7 ef t121 [.int .i64 t121] (fun k_=>(w.heap.size≤k_)∧some k_ ≠ (.slice xH lq.length uA:Value).ownBlock) (fun _=>False) rfl rfl ?aP (fun _ hk=>hk.elim) ?aF ?aO (Below.refl _ _) ?aS ?aL ?_
    (case aP=>exact rfl)
    (case aF=>exact (fun k_ hk=>⟨(Nat.le_trans (b_ (aK HK.z)) hk),Kd.fresh' (Kd.bV (aR lS.z)) k_ hk⟩))
    (case aO=>exact (aR bG.z))
    (case aS=>exact (b_ (aK HK.z)))
    (case aL=>have:=abY.out;omega)
    intro akS Bp ho hb hg a_
    rw [← FP.z] at ho
    replace fJ:=k0 (Kd.JD (ok:=(fun k_=>(w.heap.size≤k_)∧some k_ ≠ (.slice xH lq.length uA:Value).ownBlock∧k_ ≠ ay∧k_ ≠ at3∧k_ ≠ g)) (aV (Kd.bf fJ.z (fun _ hk=>⟨⟨hk.1.1,⟨hk.2,⟨hk.1.2.2.1,⟨hk.1.2.2.2.1,hk.1.2.2.2.2⟩⟩⟩⟩,hk.1.2.1⟩))) hg a_);replace aa:=k0 (fL (aB aa.z) hg (Kd.jh bG.z aa.z (by decide)));replace dB:=k0 (fL (aB dB.z) hg (Kd.jh bG.z dB.z (by decide)));replace lS:=k0 (Kd.s7 (ok:=(fun k_=>(w.heap.size≤k_))) (aR (Kd.aH lS.z (fun _ hk=>⟨hk.1.1,hk.2⟩))) hg a_);replace HB:=k0 (qC (aG (ag.ge ah.z) HB.z) HL.z hb);replace ah:=k0 (ag.grown (aA ah.z) hg (ag.lK ah.z bG.z (by decide)));replace HK:=k0 (bx.trans (aK HK.z) (bx.auk hg g) (Kd.vN bG.z));have Jh:=k0 ho;clear bG
    clear ho hb hg a_
    refine hK.out _ _ trivial (fun hHeld=>?_)
    clear hK K
    refine hJ (a':=?_) ?_ ?_
    rotate_left;· show Act.put _ (some 34) _=_;simp only [Act.put,zI,zZ,zS,bp,bH];rfl
    refine pu 13 (some 7) (ba 14 16383) aj (h:=?_)
    refine gY (jU aj.out (by kernel_rfl)) ?_
    try go_wp2
    first|go_roundg k1|(simp only [← si];go_roundg k1)
    case measure=>have:=as3.z;omega
    case rel=>exact ⟨(Dl),(wrap64 (dA+1)),(t122),(t123),rs,(by first|exact H'|(rw [si];exact H')),⟨by have:=as3.z;omega⟩,⟨aR (Kd.aH Jh.z (fun _ hk=>hk.1))⟩,⟨aV (Kd.bf fJ.z (fun _ hk=>⟨hk.1.1,⟨hk.2,⟨hk.1.2.2.1,⟨hk.1.2.2.2.1,hk.1.2.2.2.2⟩⟩⟩⟩))⟩,⟨bk⟩,⟨bk⟩,⟨aA ah.z⟩,⟨aK HK.z⟩,⟨aG (ag.ge ah.z) HB.z⟩⟩
   rw [if_pos c16] at H
   exact absurd H (by simp)
end Go.Proofs.Ytapnggjaeehpdaa.B
/- Set with little white space, by a program. -/
