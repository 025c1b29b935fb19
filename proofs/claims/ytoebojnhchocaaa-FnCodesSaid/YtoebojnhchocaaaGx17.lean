/- The functions that one law reaches, each as a Lean function, and that Go's call comes to what it says. Condition of each: that the Lean function answers (is not none). -/
import Derived.Test.YtoebojnhchocaaaGx0
import Derived.Test.YtoebojnhchocaaaGx1
import Derived.Test.YtoebojnhchocaaaGx6
import Derived.Test.YtoebojnhchocaaaGx9
import Derived.Test.YtoebojnhchocaaaGx11
import Derived.Test.YtoebojnhchocaaaGx12
import Derived.Test.YtoebojnhchocaaaGx13
import Derived.Test.YtoebojnhchocaaaGx15
import Derived.Test.YtoebojnhchocaaaGx16
namespace Go.Proofs.Ytoebojnhchocaaa.G
open Go.RowKit Go.Proofs.cx.fq Go.Proofs.cx.jX Go.Proofs.cx.lu
attribute [local go_sem] max2_int min2_int max_two min_two max_three min_three max_four min_four   -- for this text's walks alone
set_option linter.unusedVariables false
set_option linter.unusedSimpArgs false
/-! ### F10: function 10 -/
mutual
def anR.j0 : Nat → List Int → List Int → Int → Bool → Int → List (List Int) → Option (Bool)
 | 0,_,_,_,_,_,_=>none
 | k+1,x0,x4,x5,x52,gV,iz=>if x52=true then (some false) else ((aoF.f k x0).bind fun iT=>((lf.f k iT.1 iT.2).bind fun mg=>((gw.f k iT.1 iT.2).bind fun r6=>(if mg.2=r6.2 then ((ef.f k mg.1 r6.1).bind fun t129=>(anR.j1 k x0 x4 x5 mg.1 mg.2 (!t129) gV iz iT.1 iT.2)) else (anR.j1 k x0 x4 x5 mg.1 mg.2 true gV iz iT.1 iT.2)))))
def anR.j1 : Nat → List Int → List Int → Int → List Int → Int → Bool → Int → List (List Int) → Int → List (List Int) → Option (Bool)
 | 0,_,_,_,_,_,_,_,_,_,_=>none
 | k+1,x0,x4,x5,x9,fP,x73,gV,iz,D3,ap7=>if x73=true then (some false) else ((ow.f k x0).bind fun eg=>((nh.f k eg.1 eg.2).bind fun mh=>((mH.f k eg.1 eg.2).bind fun r7=>(if mh.2=r7.2 then ((ef.f k mh.1 r7.1).bind fun t143=>(anR.j2 k x4 x5 x9 fP mh.1 mh.2 (!t143) gV iz D3 ap7 eg.1 eg.2)) else (anR.j2 k x4 x5 x9 fP mh.1 mh.2 true gV iz D3 ap7 eg.1 eg.2)))))
def anR.j2 : Nat → List Int → Int → List Int → Int → List Int → Int → Bool → Int → List (List Int) → Int → List (List Int) → Int → List (List Int) → Option (Bool)
 | 0,_,_,_,_,_,_,_,_,_,_,_,_,_=>none
 | k+1,x4,x5,x9,fP,aon,jo,x94,gV,iz,D3,ap7,zi,rJ=>if x94=true then (some false) else (if fP=0 then (anR.j3 k x4 x5 aon jo ((x9.length:Int) != (wrap64 ((wrap64 (Int.tdiv (wrap64 (D3 * (wrap64 (D3+1)))) 2))+1))) gV iz zi rJ) else (anR.j3 k x4 x5 aon jo false gV iz zi rJ))
def anR.j3 : Nat → List Int → Int → List Int → Int → Bool → Int → List (List Int) → Int → List (List Int) → Option (Bool)
 | 0,_,_,_,_,_,_,_,_,_=>none
 | k+1,x4,x5,aon,jo,afu,gV,iz,zi,rJ=>if afu=true then (some false) else (if jo=0 then (anR.l0 k x4 x5 aon 0 0 gV iz zi rJ) else (anR.j5 k x4 x5 gV iz))
def anR.j5 : Nat → List Int → Int → Int → List (List Int) → Option (Bool)
 | 0,_,_,_,_=>none
 | k+1,x4,x5,gV,iz=>if x5=0 then ((lf.f k gV iz).bind fun ET=>(if ET.2=0 then (anR.j6 k x4 ET.1 ((ET.1.length:Int) != (x4.length:Int)) gV iz) else (anR.j6 k x4 ET.1 true gV iz))) else (some ((x4.length:Int) == 0))
def anR.j6 : Nat → List Int → List Int → Bool → Int → List (List Int) → Option (Bool)
 | 0,_,_,_,_,_=>none
 | k+1,x4,rL,afv,gV,iz=>if afv=true then (some false) else (anR.l1 k x4 rL 0 gV iz)
def anR.j8 : Nat → List Int → Int → List (List Int) → Option (Bool)
 | 0,_,_,_=>none
 | k+1,x4,gV,iz=>anR.l2 k x4 (([]:List Int)) 0 gV iz
def anR.l2 : Nat → List Int → List Int → Int → Int → List (List Int) → Option (Bool)
 | 0,_,_,_,_,_=>none
 | k+1,x4,ot,ap8,gV,iz=>if ap8 < gV then (if ot.length < 17592186044416 then (anR.l2 k x4 (ot ++ [wrap64 ((wrap64 (gV - 1)) - ap8)]) (wrap64 (ap8+1)) gV iz) else (none)) else ((eM.f k gV iz ot).bind fun Iu=>((dG.f k Iu.1 Iu.2.1).bind fun BW=>(if Iu.2.2=0 then (if BW.2=0 then ((ef.f k BW.1 x4).bind fun t175=>(some t175)) else (some false)) else (some false))))
def anR.l1 : Nat → List Int → List Int → Int → Int → List (List Int) → Option (Bool)
 | 0,_,_,_,_,_=>none
 | k+1,x4,rL,pV,gV,iz=>if pV < (rL.length:Int) then (if 0≤pV then (if pV < (x4.length:Int) then (if (rd rL pV)=(rd x4 pV) then (anR.l1 k x4 rL (wrap64 (pV+1)) gV iz) else (if (rd x4 pV) > (rd rL pV) then (some false) else (anR.j8 k x4 gV iz))) else (none)) else (none)) else (anR.j8 k x4 gV iz)
def anR.l0 : Nat → List Int → Int → List Int → Int → Int → Int → List (List Int) → Int → List (List Int) → Option (Bool)
 | 0,_,_,_,_,_,_,_,_,_=>none
 | k+1,x4,x5,aon,oq,wS,gV,iz,zi,rJ=>if wS < (rJ.length:Int) then (if 0≤wS then (if 0 < ((ai rJ wS).length:Int) then (if 1 < ((ai rJ wS).length:Int) then (if (rd (ai rJ wS) 0)=(rd (ai rJ wS) 1) then (anR.l0 k x4 x5 aon (wrap64 (oq+1)) (wrap64 (wS+1)) gV iz zi rJ) else (anR.l0 k x4 x5 aon oq (wrap64 (wS+1)) gV iz zi rJ)) else (none)) else (none)) else (none)) else (if (aon.length:Int) > 1 then (if 1 < (aon.length:Int) then (if (aon.length:Int)=0 then (some false) else (if 0 < (aon.length:Int) then (if (rd aon 0)=1 then (if (wrap64 (-(rd aon 1)))=(wrap64 (2 * oq)) then (anR.j5 k x4 x5 gV iz) else (some false)) else (some false)) else (none))) else (none)) else (if (aon.length:Int)=0 then (some false) else (if 0 < (aon.length:Int) then (if (rd aon 0)=1 then (if 0=(wrap64 (2 * oq)) then (anR.j5 k x4 x5 gV iz) else (some false)) else (some false)) else (none))))
end
def anR.f (k:Nat) (l0:List Int):Option (Bool):=(rP.f l0).bind fun t101=>(if t101=true then (some true) else ((lO.f k l0).bind fun cO=>((dG.f k cO.1 cO.2).bind fun iC=>((eU.f k cO.1 cO.2).bind fun jI=>(if iC.2=jI.2 then ((ef.f k iC.1 jI.1).bind fun t115=>(anR.j0 k l0 iC.1 iC.2 (!t115) cO.1 cO.2)) else (anR.j0 k l0 iC.1 iC.2 true cO.1 cO.2))))))
theorem anR.cC : ∀ k, (∀ y0 y1 y2 y3 y4 y5, ag (anR.j0 k y0 y1 y2 y3 y4 y5) (anR.j0 (k + 1) y0 y1 y2 y3 y4 y5)) ∧ (∀ y0 y1 y2 y3 y4 y5 y6 y7 y8 y9, ag (anR.j1 k y0 y1 y2 y3 y4 y5 y6 y7 y8 y9) (anR.j1 (k + 1) y0 y1 y2 y3 y4 y5 y6 y7 y8 y9)) ∧ (∀ y0 y1 y2 y3 y4 y5 y6 y7 y8 y9 wU D5 D6, ag (anR.j2 k y0 y1 y2 y3 y4 y5 y6 y7 y8 y9 wU D5 D6) (anR.j2 (k + 1) y0 y1 y2 y3 y4 y5 y6 y7 y8 y9 wU D5 D6)) ∧ (∀ y0 y1 y2 y3 y4 y5 y6 y7 y8, ag (anR.j3 k y0 y1 y2 y3 y4 y5 y6 y7 y8) (anR.j3 (k + 1) y0 y1 y2 y3 y4 y5 y6 y7 y8)) ∧ (∀ y0 y1 y2 y3, ag (anR.j5 k y0 y1 y2 y3) (anR.j5 (k + 1) y0 y1 y2 y3)) ∧ (∀ y0 y1 y2 y3 y4, ag (anR.j6 k y0 y1 y2 y3 y4) (anR.j6 (k + 1) y0 y1 y2 y3 y4)) ∧ (∀ y0 y1 y2, ag (anR.j8 k y0 y1 y2) (anR.j8 (k + 1) y0 y1 y2)) ∧ (∀ y0 y1 y2 y3 y4, ag (anR.l2 k y0 y1 y2 y3 y4) (anR.l2 (k + 1) y0 y1 y2 y3 y4)) ∧ (∀ y0 y1 y2 y3 y4, ag (anR.l1 k y0 y1 y2 y3 y4) (anR.l1 (k + 1) y0 y1 y2 y3 y4)) ∧ (∀ y0 y1 y2 y3 y4 y5 y6 y7 y8, ag (anR.l0 k y0 y1 y2 y3 y4 y5 y6 y7 y8) (anR.l0 (k + 1) y0 y1 y2 y3 y4 y5 y6 y7 y8))
 | 0=>⟨fun _ _ _ _ _ _ r h=>by simp [anR.j0] at h,fun _ _ _ _ _ _ _ _ _ _ r h=>by simp [anR.j1] at h,fun _ _ _ _ _ _ _ _ _ _ _ _ _ r h=>by simp [anR.j2] at h,fun _ _ _ _ _ _ _ _ _ r h=>by simp [anR.j3] at h,fun _ _ _ _ r h=>by simp [anR.j5] at h,fun _ _ _ _ _ r h=>by simp [anR.j6] at h,fun _ _ _ r h=>by simp [anR.j8] at h,fun _ _ _ _ _ r h=>by simp [anR.l2] at h,fun _ _ _ _ _ r h=>by simp [anR.l1] at h,fun _ _ _ _ _ _ _ _ _ r h=>by simp [anR.l0] at h⟩
 | k+1=>by
  obtain ⟨a_,ih1,ih2,ih3,ih4,ih5,aoW,DB,DC,DD⟩:=anR.cC k
  refine ⟨?_, ?_, ?_, ?_, ?_, ?_, ?_, ?_, ?_, ?_⟩ <;> intros <;> (first | unfold anR.j0 | unfold anR.j1 | unfold anR.j2 | unfold anR.j3 | unfold anR.j5 | unfold anR.j6 | unfold anR.j8 | unfold anR.l2 | unfold anR.l1 | unfold anR.l0) <;> repeat' first
   | (with_reducible first|exact a_ _ _ _ _ _ _|exact ih1 _ _ _ _ _ _ _ _ _ _|exact ih2 _ _ _ _ _ _ _ _ _ _ _ _ _|exact ih3 _ _ _ _ _ _ _ _ _|exact ih4 _ _ _ _|exact ih5 _ _ _ _ _|exact aoW _ _ _|exact DB _ _ _ _ _|exact DC _ _ _ _ _|exact DD _ _ _ _ _ _ _ _ _|exact lf.mono _ _ _|exact dG.mono _ _ _|exact eM.mono _ _ _ _|exact nh.mono _ _ _|exact ef.mono _ _ _|exact gw.mono _ _ _|exact aoF.mono _ _|exact lO.mono _ _|exact ow.mono _ _|exact eU.mono _ _ _|exact mH.mono _ _ _|exact ag.refl _|exact ag.none _|refine ag.ite ?_ ?_|refine ag.bind ?_ (fun _=>?_))
   | exact a_ _ _ _ _ _ _|exact ih1 _ _ _ _ _ _ _ _ _ _|exact ih2 _ _ _ _ _ _ _ _ _ _ _ _ _|exact ih3 _ _ _ _ _ _ _ _ _|exact ih4 _ _ _ _|exact ih5 _ _ _ _ _|exact aoW _ _ _|exact DB _ _ _ _ _|exact DC _ _ _ _ _|exact DD _ _ _ _ _ _ _ _ _|exact lf.mono _ _ _|exact dG.mono _ _ _|exact eM.mono _ _ _ _|exact nh.mono _ _ _|exact ef.mono _ _ _|exact gw.mono _ _ _|exact aoF.mono _ _|exact lO.mono _ _|exact ow.mono _ _|exact eU.mono _ _ _|exact mH.mono _ _ _|exact ag.none _|refine ag.ite ?_ ?_|refine ag.bind ?_ (fun _=>?_)
theorem anR.mono:∀ a0 k,ag (anR.f k a0) (anR.f (k+1) a0):=by
 intro a0 k
 obtain ⟨a_,ih1,ih2,ih3,ih4,ih5,aoW,DB,DC,DD⟩:=anR.cC k
 unfold anR.f
 repeat' first
  | (with_reducible first|exact a_ _ _ _ _ _ _|exact ih1 _ _ _ _ _ _ _ _ _ _|exact ih2 _ _ _ _ _ _ _ _ _ _ _ _ _|exact ih3 _ _ _ _ _ _ _ _ _|exact ih4 _ _ _ _|exact ih5 _ _ _ _ _|exact aoW _ _ _|exact DB _ _ _ _ _|exact DC _ _ _ _ _|exact DD _ _ _ _ _ _ _ _ _|exact lf.mono _ _ _|exact dG.mono _ _ _|exact eM.mono _ _ _ _|exact nh.mono _ _ _|exact ef.mono _ _ _|exact gw.mono _ _ _|exact aoF.mono _ _|exact lO.mono _ _|exact ow.mono _ _|exact eU.mono _ _ _|exact mH.mono _ _ _|exact ag.refl _|exact ag.none _|refine ag.ite ?_ ?_|refine ag.bind ?_ (fun _=>?_))
  | exact a_ _ _ _ _ _ _|exact ih1 _ _ _ _ _ _ _ _ _ _|exact ih2 _ _ _ _ _ _ _ _ _ _ _ _ _|exact ih3 _ _ _ _ _ _ _ _ _|exact ih4 _ _ _ _|exact ih5 _ _ _ _ _|exact aoW _ _ _|exact DB _ _ _ _ _|exact DC _ _ _ _ _|exact DD _ _ _ _ _ _ _ _ _|exact lf.mono _ _ _|exact dG.mono _ _ _|exact eM.mono _ _ _ _|exact nh.mono _ _ _|exact ef.mono _ _ _|exact gw.mono _ _ _|exact aoF.mono _ _|exact lO.mono _ _|exact ow.mono _ _|exact eU.mono _ _ _|exact mH.mono _ _ _|exact ag.none _|refine ag.ite ?_ ?_|refine ag.bind ?_ (fun _=>?_)
set_option maxHeartbeats 8000000 in
set_option maxRecDepth 100000 in
theorem anR.calls (k : Nat) (A0 : Option Addr) (c0 : Nat) (l0 : List Int) (r : Bool) (w : World) (cL : Kd.C (Kd.int .u8) w A0 l0.length l0) (hc0 : l0.length ≤ c0) (h : anR.f k l0 = some r) :
  Calls Try.prog 10 #[.slice A0 l0.length c0] w fun e w'=>e=.returned (.bool r)∧Below w.heap.size w w':=by
 have jS:=Try.underlying31
 have dh:=k0 cL
 have fI:=k0 hc0
 clear cL hc0
 have HB:=k0 (Below.refl w.heap.size w)
 have H:((rP.f l0).bind fun t101=>(if t101=true then (some true) else ((lO.f k l0).bind fun cO=>((dG.f k cO.1 cO.2).bind fun iC=>((eU.f k cO.1 cO.2).bind fun jI=>(if iC.2=jI.2 then ((ef.f k iC.1 jI.1).bind fun t115=>(anR.j0 k l0 iC.1 iC.2 (!t115) cO.1 cO.2)) else (anR.j0 k l0 iC.1 iC.2 true cO.1 cO.2)))))))=some r:=h
 clear h
 replace H:=Option.bind_eq_some_iff.mp H
 obtain ⟨t101,eD,H⟩:=H
 replace H:(if t101=true then (some true) else ((lO.f k l0).bind fun cO=>((dG.f k cO.1 cO.2).bind fun iC=>((eU.f k cO.1 cO.2).bind fun jI=>(if iC.2=jI.2 then ((ef.f k iC.1 jI.1).bind fun t115=>(anR.j0 k l0 iC.1 iC.2 (!t115) cO.1 cO.2)) else (anR.j0 k l0 iC.1 iC.2 true cO.1 cO.2))))))=some r:=H
 have A2:=k0 eD
 clear eD
 by_cases c3:t101=true
 case neg =>
  replace c3:=Bool.eq_false_iff.mpr c3
  subst c3
  have H1:((lO.f k l0).bind fun cO=>((dG.f k cO.1 cO.2).bind fun iC=>((eU.f k cO.1 cO.2).bind fun jI=>(if iC.2=jI.2 then ((ef.f k iC.1 jI.1).bind fun t115=>(anR.j0 k l0 iC.1 iC.2 (!t115) cO.1 cO.2)) else (anR.j0 k l0 iC.1 iC.2 true cO.1 cO.2)))))=some r:=by rw [if_neg (show ¬ (false=true) by decide)] at H;exact H
  clear H
  have H:=H1
  clear H1
  replace H:=Option.bind_eq_some_iff.mp H
  obtain ⟨⟨t102,t103⟩,jt,H⟩:=H
  replace H:((dG.f k t102 t103).bind fun iC=>((eU.f k t102 t103).bind fun jI=>(if iC.2=jI.2 then ((ef.f k iC.1 jI.1).bind fun t115=>(anR.j0 k l0 iC.1 iC.2 (!t115) t102 t103)) else (anR.j0 k l0 iC.1 iC.2 true t102 t103))))=some r:=H
  have A4:=k0 jt
  clear jt
  replace H:=Option.bind_eq_some_iff.mp H
  obtain ⟨⟨t107,t110⟩,aox,H⟩:=H
  replace H:((eU.f k t102 t103).bind fun jI=>(if t110=jI.2 then ((ef.f k t107 jI.1).bind fun t115=>(anR.j0 k l0 t107 t110 (!t115) t102 t103)) else (anR.j0 k l0 t107 t110 true t102 t103)))=some r:=H
  have A5:=k0 aox
  clear aox
  replace H:=Option.bind_eq_some_iff.mp H
  obtain ⟨⟨t111,t114⟩,Mv,H⟩:=H
  replace H:(if t110=t114 then ((ef.f k t107 t111).bind fun t115=>(anR.j0 k l0 t107 t110 (!t115) t102 t103)) else (anR.j0 k l0 t107 t110 true t102 t103))=some r:=H
  have A6:=k0 Mv
  clear Mv
  have G_:=k0 H
  clear H
  go_enter Try.func10,Try.ntmps10
  go_upto_region 6 with (first|(go_at_call 40;(with_reducible refine (rP.calls _ _ l0 false _ ?aA ?anD A2.z).mono ?_);(case aA=>exact aC dh.z);(case anD=>exact fI.z);rintro e w' ⟨rfl,⟨nd,rfl⟩⟩;(try exact dN))|(go_at_call 41;(with_reducible refine (lO.calls k _ _ l0 t102 t103 _ ?aA ?anD A4.z).mono ?_);(case aA=>exact aC dh.z);(case anD=>exact fI.z);rintro e w8 ⟨aoZ,rfl,aq,hb⟩;have cZ:=k0 (Kd.o5 (Kd.anJ (ok':=fun k_=>True) aq (fun k_ b9=>trivial)) (anG bl));replace HB:=k0 (anH bl hb);)|((with_reducible refine bN (N:=3) rfl ?_);(try (refine fV (by rfl) ?_;dsimp only));refine cE 3 #[.int .i64 0,.slice none 0 0] 31 ?_;intro bW hg w9 aG hb;replace cZ:=k0 (Kd.dz (Kd.ej (aV cZ.z) bW (Nat.le_of_eq hg.symm)) hb);have aJ:=k0 (aG);have zH:=gW hg (anG bl);have G0:=zH;replace HB:=k0 (anH bl hb);clear hb aG hg;have xW:=aX aJ;have xX:=aY aJ;have apc:=bF aJ 0;have apd:=bF aJ 1;obtain ⟨eG,dZ,ru⟩:=Kd.nA cZ.z;subst ru)|(go_at_call 42;(with_reducible refine (dG.calls k t102 _ _ t103 t107 t110 _ ?aA ?anD A5.z).mono ?_);(case aA=>first|(refine (Kd.cN (e:=28) (base:=w.heap.size) (ok:=fun k_=>(True∧k_ ≠ bW)) (n:=t103.length) (c:=dZ) ?_).2.2;exact (by (with_reducible repeat (first|apply Kd.cW|apply Kd.cX|apply Kd.cV));exact (Kd.anJ (Kd.bG (p:=⟨bW,1,none⟩) (Kd.bG (p:=⟨bW,0,none⟩) (Kd.anJ cZ.z (fun k_ hk=>(⟨hk,hk.2⟩:_∧k_ ≠ bW))) (fun _ hk=>hk.2) (.int .i64 t102)) (fun _ hk=>hk.2) (.slice eG t103.length dZ)) (fun _ h_=>h_.1))))|(refine (Kd.cN (e:=28) (base:=w.heap.size) (ok:=fun k_=>k_ ≠ bW) (n:=t103.length) (c:=dZ) ?_).2.2;exact (by (with_reducible repeat (first|apply Kd.cW|apply Kd.cX|apply Kd.cV));exact (Kd.anJ (Kd.bG (p:=⟨bW,1,none⟩) (Kd.bG (p:=⟨bW,0,none⟩) (Kd.anJ cZ.z (fun k_ hk=>(⟨hk,hk.2⟩:_∧k_ ≠ bW))) (fun _ hk=>hk.2) (.int .i64 t102)) (fun _ hk=>hk.2) (.slice eG t103.length dZ)) (fun _ h_=>h_.1)))));(case anD=>exact (Kd.cN cZ.z).2.1);rintro e ao0 ⟨cw,rfl,aq,hb⟩;replace cZ:=k0 (Kd.b8 (by (with_reducible repeat (first|apply Kd.cW|apply Kd.cX|apply Kd.cV));exact (Kd.anJ (Kd.bG (p:=⟨bW,1,none⟩) (Kd.bG (p:=⟨bW,0,none⟩) (Kd.anJ cZ.z (fun k_ hk=>(⟨hk,hk.2⟩:_∧k_ ≠ bW))) (fun _ hk=>hk.2) (.int .i64 t102)) (fun _ hk=>hk.2) (.slice eG t103.length dZ)) (fun _ h_=>h_.1))) (Kd.aU aq) hb);have dy:=k0 (Kd.cH aq (anG bl));replace aJ:=k0 (cB (g:=bW) (o:=sO t102 eG t103 dZ 31) (by (with_reducible repeat (first|refine anF ?_ _|refine aH ?_|refine aI ?_ _));refine anV (cs:=#[.int .i64 t102,.slice none 0 0]) ?_ 1 _ rfl;(with_reducible repeat (first|refine anF ?_ _|refine aH ?_|refine aI ?_ _));refine anV (cs:=#[.int .i64 0,.slice none 0 0]) ?_ 0 _ rfl;exact bk) hb);replace HB:=k0 (anH bl hb);have JA:=aX aJ;have JB:=aY aJ;have JP:=bF aJ 0;have JQ:=bF aJ 1)|(go_at_call 43;(with_reducible refine (eU.calls k t102 _ _ t103 t111 t114 _ ?aA ?anD A6.z).mono ?_);(case aA=>exact aC ((Kd.cN cZ.z).2.2));(case anD=>exact (Kd.cN cZ.z).2.1);rintro e Gp ⟨DW,rfl,aq,hb⟩;replace cZ:=k0 (Kd.b8 (aV cZ.z) (Kd.aU aq) hb);have oW:=k0 (Kd.cH (Kd.cR aq (Kd.bK (aR dy.z))) (anG bl));replace dy:=k0 (Kd.cQ (aR dy.z) (Kd.aU aq) hb);replace aJ:=kB aJ hb;replace HB:=k0 (anH bl hb);))
  repeat (go_quiet (first|(go_at_call 40;(with_reducible refine (rP.calls _ _ l0 false _ ?aA ?anD A2.z).mono ?_);(case aA=>exact aC dh.z);(case anD=>exact fI.z);rintro e w' ⟨rfl,⟨nd,rfl⟩⟩;(try exact dN))|(go_at_call 41;(with_reducible refine (lO.calls k _ _ l0 t102 t103 _ ?aA ?anD A4.z).mono ?_);(case aA=>exact aC dh.z);(case anD=>exact fI.z);rintro e w8 ⟨aoZ,rfl,aq,hb⟩;have cZ:=k0 (Kd.o5 (Kd.anJ (ok':=fun k_=>True) aq (fun k_ b9=>trivial)) (anG bl));replace HB:=k0 (anH bl hb);)|((with_reducible refine bN (N:=3) rfl ?_);(try (refine fV (by rfl) ?_;dsimp only));refine cE 3 #[.int .i64 0,.slice none 0 0] 31 ?_;intro bW hg w9 aG hb;replace cZ:=k0 (Kd.dz (Kd.ej (aV cZ.z) bW (Nat.le_of_eq hg.symm)) hb);have aJ:=k0 (aG);have zH:=gW hg (anG bl);have G0:=zH;replace HB:=k0 (anH bl hb);clear hb aG hg;have xW:=aX aJ;have xX:=aY aJ;have apc:=bF aJ 0;have apd:=bF aJ 1;obtain ⟨eG,dZ,ru⟩:=Kd.nA cZ.z;subst ru)|(go_at_call 42;(with_reducible refine (dG.calls k t102 _ _ t103 t107 t110 _ ?aA ?anD A5.z).mono ?_);(case aA=>first|(refine (Kd.cN (e:=28) (base:=w.heap.size) (ok:=fun k_=>(True∧k_ ≠ bW)) (n:=t103.length) (c:=dZ) ?_).2.2;exact (by (with_reducible repeat (first|apply Kd.cW|apply Kd.cX|apply Kd.cV));exact (Kd.anJ (Kd.bG (p:=⟨bW,1,none⟩) (Kd.bG (p:=⟨bW,0,none⟩) (Kd.anJ cZ.z (fun k_ hk=>(⟨hk,hk.2⟩:_∧k_ ≠ bW))) (fun _ hk=>hk.2) (.int .i64 t102)) (fun _ hk=>hk.2) (.slice eG t103.length dZ)) (fun _ h_=>h_.1))))|(refine (Kd.cN (e:=28) (base:=w.heap.size) (ok:=fun k_=>k_ ≠ bW) (n:=t103.length) (c:=dZ) ?_).2.2;exact (by (with_reducible repeat (first|apply Kd.cW|apply Kd.cX|apply Kd.cV));exact (Kd.anJ (Kd.bG (p:=⟨bW,1,none⟩) (Kd.bG (p:=⟨bW,0,none⟩) (Kd.anJ cZ.z (fun k_ hk=>(⟨hk,hk.2⟩:_∧k_ ≠ bW))) (fun _ hk=>hk.2) (.int .i64 t102)) (fun _ hk=>hk.2) (.slice eG t103.length dZ)) (fun _ h_=>h_.1)))));(case anD=>exact (Kd.cN cZ.z).2.1);rintro e ao0 ⟨cw,rfl,aq,hb⟩;replace cZ:=k0 (Kd.b8 (by (with_reducible repeat (first|apply Kd.cW|apply Kd.cX|apply Kd.cV));exact (Kd.anJ (Kd.bG (p:=⟨bW,1,none⟩) (Kd.bG (p:=⟨bW,0,none⟩) (Kd.anJ cZ.z (fun k_ hk=>(⟨hk,hk.2⟩:_∧k_ ≠ bW))) (fun _ hk=>hk.2) (.int .i64 t102)) (fun _ hk=>hk.2) (.slice eG t103.length dZ)) (fun _ h_=>h_.1))) (Kd.aU aq) hb);have dy:=k0 (Kd.cH aq (anG bl));replace aJ:=k0 (cB (g:=bW) (o:=sO t102 eG t103 dZ 31) (by (with_reducible repeat (first|refine anF ?_ _|refine aH ?_|refine aI ?_ _));refine anV (cs:=#[.int .i64 t102,.slice none 0 0]) ?_ 1 _ rfl;(with_reducible repeat (first|refine anF ?_ _|refine aH ?_|refine aI ?_ _));refine anV (cs:=#[.int .i64 0,.slice none 0 0]) ?_ 0 _ rfl;exact bk) hb);replace HB:=k0 (anH bl hb);have JA:=aX aJ;have JB:=aY aJ;have JP:=bF aJ 0;have JQ:=bF aJ 1)|(go_at_call 43;(with_reducible refine (eU.calls k t102 _ _ t103 t111 t114 _ ?aA ?anD A6.z).mono ?_);(case aA=>exact aC ((Kd.cN cZ.z).2.2));(case anD=>exact (Kd.cN cZ.z).2.1);rintro e Gp ⟨DW,rfl,aq,hb⟩;replace cZ:=k0 (Kd.b8 (aV cZ.z) (Kd.aU aq) hb);have oW:=k0 (Kd.cH (Kd.cR aq (Kd.bK (aR dy.z))) (anG bl));replace dy:=k0 (Kd.cQ (aR dy.z) (Kd.aU aq) hb);replace aJ:=kB aJ hb;replace HB:=k0 (anH bl hb);));go_upto_region 6 with (first|(go_at_call 40;(with_reducible refine (rP.calls _ _ l0 false _ ?aA ?anD A2.z).mono ?_);(case aA=>exact aC dh.z);(case anD=>exact fI.z);rintro e w' ⟨rfl,⟨nd,rfl⟩⟩;(try exact dN))|(go_at_call 41;(with_reducible refine (lO.calls k _ _ l0 t102 t103 _ ?aA ?anD A4.z).mono ?_);(case aA=>exact aC dh.z);(case anD=>exact fI.z);rintro e w8 ⟨aoZ,rfl,aq,hb⟩;have cZ:=k0 (Kd.o5 (Kd.anJ (ok':=fun k_=>True) aq (fun k_ b9=>trivial)) (anG bl));replace HB:=k0 (anH bl hb);)|((with_reducible refine bN (N:=3) rfl ?_);(try (refine fV (by rfl) ?_;dsimp only));refine cE 3 #[.int .i64 0,.slice none 0 0] 31 ?_;intro bW hg w9 aG hb;replace cZ:=k0 (Kd.dz (Kd.ej (aV cZ.z) bW (Nat.le_of_eq hg.symm)) hb);have aJ:=k0 (aG);have zH:=gW hg (anG bl);have G0:=zH;replace HB:=k0 (anH bl hb);clear hb aG hg;have xW:=aX aJ;have xX:=aY aJ;have apc:=bF aJ 0;have apd:=bF aJ 1;obtain ⟨eG,dZ,ru⟩:=Kd.nA cZ.z;subst ru)|(go_at_call 42;(with_reducible refine (dG.calls k t102 _ _ t103 t107 t110 _ ?aA ?anD A5.z).mono ?_);(case aA=>first|(refine (Kd.cN (e:=28) (base:=w.heap.size) (ok:=fun k_=>(True∧k_ ≠ bW)) (n:=t103.length) (c:=dZ) ?_).2.2;exact (by (with_reducible repeat (first|apply Kd.cW|apply Kd.cX|apply Kd.cV));exact (Kd.anJ (Kd.bG (p:=⟨bW,1,none⟩) (Kd.bG (p:=⟨bW,0,none⟩) (Kd.anJ cZ.z (fun k_ hk=>(⟨hk,hk.2⟩:_∧k_ ≠ bW))) (fun _ hk=>hk.2) (.int .i64 t102)) (fun _ hk=>hk.2) (.slice eG t103.length dZ)) (fun _ h_=>h_.1))))|(refine (Kd.cN (e:=28) (base:=w.heap.size) (ok:=fun k_=>k_ ≠ bW) (n:=t103.length) (c:=dZ) ?_).2.2;exact (by (with_reducible repeat (first|apply Kd.cW|apply Kd.cX|apply Kd.cV));exact (Kd.anJ (Kd.bG (p:=⟨bW,1,none⟩) (Kd.bG (p:=⟨bW,0,none⟩) (Kd.anJ cZ.z (fun k_ hk=>(⟨hk,hk.2⟩:_∧k_ ≠ bW))) (fun _ hk=>hk.2) (.int .i64 t102)) (fun _ hk=>hk.2) (.slice eG t103.length dZ)) (fun _ h_=>h_.1)))));(case anD=>exact (Kd.cN cZ.z).2.1);rintro e ao0 ⟨cw,rfl,aq,hb⟩;replace cZ:=k0 (Kd.b8 (by (with_reducible repeat (first|apply Kd.cW|apply Kd.cX|apply Kd.cV));exact (Kd.anJ (Kd.bG (p:=⟨bW,1,none⟩) (Kd.bG (p:=⟨bW,0,none⟩) (Kd.anJ cZ.z (fun k_ hk=>(⟨hk,hk.2⟩:_∧k_ ≠ bW))) (fun _ hk=>hk.2) (.int .i64 t102)) (fun _ hk=>hk.2) (.slice eG t103.length dZ)) (fun _ h_=>h_.1))) (Kd.aU aq) hb);have dy:=k0 (Kd.cH aq (anG bl));replace aJ:=k0 (cB (g:=bW) (o:=sO t102 eG t103 dZ 31) (by (with_reducible repeat (first|refine anF ?_ _|refine aH ?_|refine aI ?_ _));refine anV (cs:=#[.int .i64 t102,.slice none 0 0]) ?_ 1 _ rfl;(with_reducible repeat (first|refine anF ?_ _|refine aH ?_|refine aI ?_ _));refine anV (cs:=#[.int .i64 0,.slice none 0 0]) ?_ 0 _ rfl;exact bk) hb);replace HB:=k0 (anH bl hb);have JA:=aX aJ;have JB:=aY aJ;have JP:=bF aJ 0;have JQ:=bF aJ 1)|(go_at_call 43;(with_reducible refine (eU.calls k t102 _ _ t103 t111 t114 _ ?aA ?anD A6.z).mono ?_);(case aA=>exact aC ((Kd.cN cZ.z).2.2));(case anD=>exact (Kd.cN cZ.z).2.1);rintro e Gp ⟨DW,rfl,aq,hb⟩;replace cZ:=k0 (Kd.b8 (aV cZ.z) (Kd.aU aq) hb);have oW:=k0 (Kd.cH (Kd.cR aq (Kd.bK (aR dy.z))) (anG bl));replace dy:=k0 (Kd.cQ (aR dy.z) (Kd.aU aq) hb);replace aJ:=kB aJ hb;replace HB:=k0 (anH bl hb);)))
  (try simp only [Act.put,zI,zZ,zS])
  go_cut [52] (fun v52 wc=>∃ (kq:Nat) (Gz:Bool),v52=.bool Gz∧ak (anR.j0 kq l0 t107 t110 Gz t102 t103=some r)∧ak (kq≤k)∧ak (Kd.R (Kd.int .i64) 2 wc w.heap.size (fun _=>True) cw t107)∧ak (Kd.V (Kd.slice 2 (Kd.int .i64)) 28 wc w.heap.size (fun k_=>some k_ ≠ (cw:Value).ownBlock∧k_ ≠ bW) (.slice eG t103.length dZ) t103)∧ak (wc.heap[bW]?=some (sO t102 eG t103 dZ 31))∧ak (Below w.heap.size w wc))
  case first =>
   have H:=G_.z
   clear G_
   by_cases c15:t110=t114
   case neg =>
    rw [if_neg c15] at H
    have lD:(t110 == t114)=false:=beq_eq_false_iff_ne.mpr c15
    have xF:(t110 != t114)=true:=bne_iff_ne.mpr c15
    (first|rw [lD]|(simp only [dX,eZ];rw [lD])|skip)
    have H':=k0 H
    clear H
    go_wp2
    repeat (go_quiet (fail);try go_wp2)
    go_meet
    case rel=>exact ⟨_,(true),rs,H',⟨by first|omega|exact Nat.le_refl _⟩,⟨aR (Kd.aT dy.z (fun _ hk=>trivial))⟩,⟨aV (Kd.anJ cZ.z (fun _ hk=>⟨hk.1.2,hk.1.1.2⟩))⟩,⟨bk⟩,⟨bl⟩⟩
   rw [if_pos c15] at H
   have lD:(t110 == t114)=true:=beq_iff_eq.mpr c15
   have xF:(t110 != t114)=false:=bne_eq_false_iff_eq.mpr c15
   clear c15
   (first|rw [lD]|(simp only [dX,eZ];rw [lD])|skip)
   replace H:=Option.bind_eq_some_iff.mp H
   obtain ⟨t115,vt,H⟩:=H
   replace H:(anR.j0 k l0 t107 t110 (!t115) t102 t103)=some r:=H
   have qW:=k0 vt
   clear vt
   have H':=k0 H
   clear H
   obtain ⟨MG,OU,I0⟩:=Kd.cK dy.z
   subst I0
   obtain ⟨MH,IK,Av⟩:=Kd.cK oW.z
   subst Av
   go_wp2_with (first|(go_at_call 44;(with_reducible refine (ef.calls k _ _ t107 _ _ t111 t115 _ ?aA ?anD ?cP ?dB qW.z).mono ?_);(case aA=>exact aC ((Kd.anT dy.z).2.2));(case anD=>exact (Kd.anT dy.z).2.1);(case cP=>exact aC ((Kd.anT oW.z).2.2));(case dB=>exact (Kd.anT oW.z).2.1);rintro e w' ⟨rfl,⟨nd,rfl⟩⟩;(try exact dN)))
   repeat (go_quiet (first|(go_at_call 44;(with_reducible refine (ef.calls k _ _ t107 _ _ t111 t115 _ ?aA ?anD ?cP ?dB qW.z).mono ?_);(case aA=>exact aC ((Kd.anT dy.z).2.2));(case anD=>exact (Kd.anT dy.z).2.1);(case cP=>exact aC ((Kd.anT oW.z).2.2));(case dB=>exact (Kd.anT oW.z).2.1);rintro e w' ⟨rfl,⟨nd,rfl⟩⟩;(try exact dN)));try go_wp2_with (first|(go_at_call 44;(with_reducible refine (ef.calls k _ _ t107 _ _ t111 t115 _ ?aA ?anD ?cP ?dB qW.z).mono ?_);(case aA=>exact aC ((Kd.anT dy.z).2.2));(case anD=>exact (Kd.anT dy.z).2.1);(case cP=>exact aC ((Kd.anT oW.z).2.2));(case dB=>exact (Kd.anT oW.z).2.1);rintro e w' ⟨rfl,⟨nd,rfl⟩⟩;(try exact dN))))
   go_meet
   case rel=>exact ⟨_,(!t115),rs,H',⟨by first|omega|exact Nat.le_refl _⟩,⟨aR (Kd.aT dy.z (fun _ hk=>trivial))⟩,⟨aV (Kd.anJ cZ.z (fun _ hk=>⟨hk.1.2,hk.1.1.2⟩))⟩,⟨bk⟩,⟨bl⟩⟩
  case rest=>as_aux_lemma =>
   clear G_
   obtain ⟨kq,Gz,rfl,HA,lQ,aE,anL,aJ,HB⟩:=hcut
   cases kq with
   | zero=>exact absurd HA.z (by simp [anR.j0])
   | succ iW =>
    have H:=HA.z
    clear HA
    simp only [anR.j0] at H
    by_cases c19:Gz=true
    case neg =>
     replace c19:=Bool.eq_false_iff.mpr c19
     subst c19
     have H1:((aoF.f iW l0).bind fun iT=>((lf.f iW iT.1 iT.2).bind fun mg=>((gw.f iW iT.1 iT.2).bind fun r6=>(if mg.2=r6.2 then ((ef.f iW mg.1 r6.1).bind fun t129=>(anR.j1 iW l0 t107 t110 mg.1 mg.2 (!t129) t102 t103 iT.1 iT.2)) else (anR.j1 iW l0 t107 t110 mg.1 mg.2 true t102 t103 iT.1 iT.2)))))=some r:=by rw [if_neg (show ¬ (false=true) by decide)] at H;exact H
     clear H
     have H:=H1
     clear H1
     replace H:=Option.bind_eq_some_iff.mp H
     obtain ⟨⟨t116,t117⟩,Bi,H⟩:=H
     replace H:((lf.f iW t116 t117).bind fun mg=>((gw.f iW t116 t117).bind fun r6=>(if mg.2=r6.2 then ((ef.f iW mg.1 r6.1).bind fun t129=>(anR.j1 iW l0 t107 t110 mg.1 mg.2 (!t129) t102 t103 t116 t117)) else (anR.j1 iW l0 t107 t110 mg.1 mg.2 true t102 t103 t116 t117))))=some r:=H
     have eD:=k0 Bi
     clear Bi
     replace H:=Option.bind_eq_some_iff.mp H
     obtain ⟨⟨t121,t124⟩,Md,H⟩:=H
     replace H:((gw.f iW t116 t117).bind fun r6=>(if t124=r6.2 then ((ef.f iW t121 r6.1).bind fun t129=>(anR.j1 iW l0 t107 t110 t121 t124 (!t129) t102 t103 t116 t117)) else (anR.j1 iW l0 t107 t110 t121 t124 true t102 t103 t116 t117)))=some r:=H
     have GK:=k0 Md
     clear Md
     replace H:=Option.bind_eq_some_iff.mp H
     obtain ⟨⟨t125,t128⟩,vv,H⟩:=H
     replace H:(if t124=t128 then ((ef.f iW t121 t125).bind fun t129=>(anR.j1 iW l0 t107 t110 t121 t124 (!t129) t102 t103 t116 t117)) else (anR.j1 iW l0 t107 t110 t121 t124 true t102 t103 t116 t117))=some r:=H
     have vu:=k0 vv
     clear vv
     have G5:=k0 H
     clear H
     go_upto_region 11 with (first|(go_at_call 45;(with_reducible refine (aoF.calls iW _ _ l0 t116 t117 _ ?aA ?anD eD.z).mono ?_);(case aA=>exact aC (Kd.dU dh.z HB.z));(case anD=>exact fI.z);rintro e apF ⟨Gl,rfl,aq,hb⟩;replace anL:=k0 (Kd.dz (aV anL.z) hb);have fM:=k0 (Kd.o5 (Kd.anJ (ok':=fun k_=>some k_ ≠ (cw:Value).ownBlock∧k_ ≠ bW) aq (fun k_ b9=>⟨(Kd.fresh' (Kd.bK (aR aE.z)) k_ b9),(Kd.oG (aB aJ.z) k_ b9)⟩)) (anG bl));replace aE:=k0 (Kd.dg (aR aE.z) hb);replace aJ:=kB aJ hb;replace HB:=k0 (anH bl hb);)|((with_reducible refine bN (N:=8) rfl ?_);(try (refine fV (by rfl) ?_;dsimp only));refine cE 8 #[.int .i64 0,.slice none 0 0] 31 ?_;intro cr hg Gr aG hb;replace aE:=k0 (Kd.dg (aR aE.z) hb);replace anL:=k0 (Kd.dz (Kd.ej (aV anL.z) cr (Nat.le_of_eq hg.symm)) hb);replace fM:=k0 (Kd.dz (Kd.ej (aV fM.z) cr (Nat.le_of_eq hg.symm)) hb);have aZ:=k0 (aG);have Bt:=gW hg (anG bl);have M3:=Bt;replace HB:=k0 (anH bl hb);have l7:=nL hg aJ;have rU:=nG l7;replace aJ:=kB aJ hb;clear hb aG hg;have De:=rU.z;have Df:=l7.z;have CN:=aX aZ;have CO:=aY aZ;have CV:=bF aZ 0;have CW:=bF aZ 1;obtain ⟨an2,dA,ry⟩:=Kd.nA fM.z;subst ry)|(go_at_call 46;(with_reducible refine (lf.calls iW t116 _ _ t117 t121 t124 _ ?aA ?anD GK.z).mono ?_);(case aA=>refine (Kd.cN (e:=28) (base:=w.heap.size) (ok:=fun k_=>((some k_ ≠ (cw:Value).ownBlock∧k_ ≠ bW)∧k_ ≠ cr)) (n:=t117.length) (c:=dA) ?_).2.2;exact (by (with_reducible repeat (first|apply Kd.cW|apply Kd.cX|apply Kd.cV));exact (Kd.anJ (Kd.bG (p:=⟨cr,1,none⟩) (Kd.bG (p:=⟨cr,0,none⟩) (Kd.anJ fM.z (fun k_ hk=>(⟨hk,hk.2⟩:_∧k_ ≠ cr))) (fun _ hk=>hk.2) (.int .i64 t116)) (fun _ hk=>hk.2) (.slice an2 t117.length dA)) (fun _ h_=>h_.1))));(case anD=>exact (Kd.cN fM.z).2.1);rintro e DZ ⟨lJ,rfl,aq,hb⟩;replace anL:=k0 (Kd.b8 (by (with_reducible repeat (first|apply Kd.cW|apply Kd.cX|apply Kd.cV));exact (Kd.anJ (Kd.bG (p:=⟨cr,1,none⟩) (Kd.bG (p:=⟨cr,0,none⟩) (Kd.anJ anL.z (fun k_ hk=>(⟨hk,hk.2⟩:_∧k_ ≠ cr))) (fun _ hk=>hk.2) (.int .i64 t116)) (fun _ hk=>hk.2) (.slice an2 t117.length dA)) (fun _ h_=>h_.1))) (Kd.aU aq) hb);replace fM:=k0 (Kd.b8 (by (with_reducible repeat (first|apply Kd.cW|apply Kd.cX|apply Kd.cV));exact (Kd.anJ (Kd.bG (p:=⟨cr,1,none⟩) (Kd.bG (p:=⟨cr,0,none⟩) (Kd.anJ fM.z (fun k_ hk=>(⟨hk,hk.2⟩:_∧k_ ≠ cr))) (fun _ hk=>hk.2) (.int .i64 t116)) (fun _ hk=>hk.2) (.slice an2 t117.length dA)) (fun _ h_=>h_.1))) (Kd.aU aq) hb);have eu:=k0 (Kd.cH (Kd.cR aq (Kd.bK (by (with_reducible repeat (first|apply Kd.b_|apply Kd.bZ|apply Kd.bP));exact (Kd.aT (gR 1 (.slice an2 t117.length dA) (gR 0 (.int .i64 t116) (tR aE aZ))) (fun _ h_=>h_.1))))) (anG bl));replace aE:=k0 (Kd.cQ (by (with_reducible repeat (first|apply Kd.b_|apply Kd.bZ|apply Kd.bP));exact (Kd.aT (gR 1 (.slice an2 t117.length dA) (gR 0 (.int .i64 t116) (tR aE aZ))) (fun _ h_=>h_.1))) (Kd.aU aq) hb);replace aJ:=k0 (cB (g:=bW) (o:=sO t102 eG t103 dZ 31) (by (with_reducible repeat (first|refine anF ?_ _|refine aH ?_|refine aI ?_ _));refine anU ?_ l7.z _;(with_reducible repeat (first|refine anF ?_ _|refine aH ?_|refine aI ?_ _));refine anU ?_ l7.z _;exact bk) hb);replace aZ:=k0 (cB (g:=cr) (o:=sO t116 an2 t117 dA 31) (by (with_reducible repeat (first|refine anF ?_ _|refine aH ?_|refine aI ?_ _));refine anV (cs:=#[.int .i64 t116,.slice none 0 0]) ?_ 1 _ rfl;(with_reducible repeat (first|refine anF ?_ _|refine aH ?_|refine aI ?_ _));refine anV (cs:=#[.int .i64 0,.slice none 0 0]) ?_ 0 _ rfl;exact bk) hb);replace HB:=k0 (anH bl hb);have CP:=aX aZ;have CQ:=aY aZ;have CX:=bF aZ 0;have CY:=bF aZ 1)|(go_at_call 47;(with_reducible refine (gw.calls iW t116 _ _ t117 t125 t128 _ ?aA ?anD vu.z).mono ?_);(case aA=>exact aC ((Kd.cN fM.z).2.2));(case anD=>exact (Kd.cN fM.z).2.1);rintro e D0 ⟨TC,rfl,aq,hb⟩;have av:=k0 (Kd.cQ (aR aE.z) (Kd.aU aq) hb);have ax:=k0 (Kd.b8 (aV anL.z) (Kd.aU aq) hb);have ay:=k0 (Kd.b8 (aV fM.z) (Kd.aU aq) hb);have anC:=k0 (Kd.cQ (aR eu.z) (Kd.aU aq) hb);have aD:=k0 (Kd.cH (Kd.cR (Kd.cR aq (Kd.bK (aR aE.z))) (Kd.bK (aR eu.z))) (anG bl));have anE:=kB aJ hb;have anP:=kB aZ hb;have bL:=k0 (anH bl hb);clear aE;clear anL;clear fM;clear eu;clear aJ;clear aZ;clear HB;have aE:=av;have anL:=ax;have fM:=ay;have eu:=anC;have ue:=aD;have aJ:=anE;have aZ:=anP;have HB:=bL;clear av ax ay anC aD anE anP bL;))
     repeat (go_quiet (first|(go_at_call 45;(with_reducible refine (aoF.calls iW _ _ l0 t116 t117 _ ?aA ?anD eD.z).mono ?_);(case aA=>exact aC (Kd.dU dh.z HB.z));(case anD=>exact fI.z);rintro e apF ⟨Gl,rfl,aq,hb⟩;replace anL:=k0 (Kd.dz (aV anL.z) hb);have fM:=k0 (Kd.o5 (Kd.anJ (ok':=fun k_=>some k_ ≠ (cw:Value).ownBlock∧k_ ≠ bW) aq (fun k_ b9=>⟨(Kd.fresh' (Kd.bK (aR aE.z)) k_ b9),(Kd.oG (aB aJ.z) k_ b9)⟩)) (anG bl));replace aE:=k0 (Kd.dg (aR aE.z) hb);replace aJ:=kB aJ hb;replace HB:=k0 (anH bl hb);)|((with_reducible refine bN (N:=8) rfl ?_);(try (refine fV (by rfl) ?_;dsimp only));refine cE 8 #[.int .i64 0,.slice none 0 0] 31 ?_;intro cr hg Gr aG hb;replace aE:=k0 (Kd.dg (aR aE.z) hb);replace anL:=k0 (Kd.dz (Kd.ej (aV anL.z) cr (Nat.le_of_eq hg.symm)) hb);replace fM:=k0 (Kd.dz (Kd.ej (aV fM.z) cr (Nat.le_of_eq hg.symm)) hb);have aZ:=k0 (aG);have Bt:=gW hg (anG bl);have M3:=Bt;replace HB:=k0 (anH bl hb);have l7:=nL hg aJ;have rU:=nG l7;replace aJ:=kB aJ hb;clear hb aG hg;have De:=rU.z;have Df:=l7.z;have CN:=aX aZ;have CO:=aY aZ;have CV:=bF aZ 0;have CW:=bF aZ 1;obtain ⟨an2,dA,ry⟩:=Kd.nA fM.z;subst ry)|(go_at_call 46;(with_reducible refine (lf.calls iW t116 _ _ t117 t121 t124 _ ?aA ?anD GK.z).mono ?_);(case aA=>refine (Kd.cN (e:=28) (base:=w.heap.size) (ok:=fun k_=>((some k_ ≠ (cw:Value).ownBlock∧k_ ≠ bW)∧k_ ≠ cr)) (n:=t117.length) (c:=dA) ?_).2.2;exact (by (with_reducible repeat (first|apply Kd.cW|apply Kd.cX|apply Kd.cV));exact (Kd.anJ (Kd.bG (p:=⟨cr,1,none⟩) (Kd.bG (p:=⟨cr,0,none⟩) (Kd.anJ fM.z (fun k_ hk=>(⟨hk,hk.2⟩:_∧k_ ≠ cr))) (fun _ hk=>hk.2) (.int .i64 t116)) (fun _ hk=>hk.2) (.slice an2 t117.length dA)) (fun _ h_=>h_.1))));(case anD=>exact (Kd.cN fM.z).2.1);rintro e DZ ⟨lJ,rfl,aq,hb⟩;replace anL:=k0 (Kd.b8 (by (with_reducible repeat (first|apply Kd.cW|apply Kd.cX|apply Kd.cV));exact (Kd.anJ (Kd.bG (p:=⟨cr,1,none⟩) (Kd.bG (p:=⟨cr,0,none⟩) (Kd.anJ anL.z (fun k_ hk=>(⟨hk,hk.2⟩:_∧k_ ≠ cr))) (fun _ hk=>hk.2) (.int .i64 t116)) (fun _ hk=>hk.2) (.slice an2 t117.length dA)) (fun _ h_=>h_.1))) (Kd.aU aq) hb);replace fM:=k0 (Kd.b8 (by (with_reducible repeat (first|apply Kd.cW|apply Kd.cX|apply Kd.cV));exact (Kd.anJ (Kd.bG (p:=⟨cr,1,none⟩) (Kd.bG (p:=⟨cr,0,none⟩) (Kd.anJ fM.z (fun k_ hk=>(⟨hk,hk.2⟩:_∧k_ ≠ cr))) (fun _ hk=>hk.2) (.int .i64 t116)) (fun _ hk=>hk.2) (.slice an2 t117.length dA)) (fun _ h_=>h_.1))) (Kd.aU aq) hb);have eu:=k0 (Kd.cH (Kd.cR aq (Kd.bK (by (with_reducible repeat (first|apply Kd.b_|apply Kd.bZ|apply Kd.bP));exact (Kd.aT (gR 1 (.slice an2 t117.length dA) (gR 0 (.int .i64 t116) (tR aE aZ))) (fun _ h_=>h_.1))))) (anG bl));replace aE:=k0 (Kd.cQ (by (with_reducible repeat (first|apply Kd.b_|apply Kd.bZ|apply Kd.bP));exact (Kd.aT (gR 1 (.slice an2 t117.length dA) (gR 0 (.int .i64 t116) (tR aE aZ))) (fun _ h_=>h_.1))) (Kd.aU aq) hb);replace aJ:=k0 (cB (g:=bW) (o:=sO t102 eG t103 dZ 31) (by (with_reducible repeat (first|refine anF ?_ _|refine aH ?_|refine aI ?_ _));refine anU ?_ l7.z _;(with_reducible repeat (first|refine anF ?_ _|refine aH ?_|refine aI ?_ _));refine anU ?_ l7.z _;exact bk) hb);replace aZ:=k0 (cB (g:=cr) (o:=sO t116 an2 t117 dA 31) (by (with_reducible repeat (first|refine anF ?_ _|refine aH ?_|refine aI ?_ _));refine anV (cs:=#[.int .i64 t116,.slice none 0 0]) ?_ 1 _ rfl;(with_reducible repeat (first|refine anF ?_ _|refine aH ?_|refine aI ?_ _));refine anV (cs:=#[.int .i64 0,.slice none 0 0]) ?_ 0 _ rfl;exact bk) hb);replace HB:=k0 (anH bl hb);have CP:=aX aZ;have CQ:=aY aZ;have CX:=bF aZ 0;have CY:=bF aZ 1)|(go_at_call 47;(with_reducible refine (gw.calls iW t116 _ _ t117 t125 t128 _ ?aA ?anD vu.z).mono ?_);(case aA=>exact aC ((Kd.cN fM.z).2.2));(case anD=>exact (Kd.cN fM.z).2.1);rintro e D0 ⟨TC,rfl,aq,hb⟩;have av:=k0 (Kd.cQ (aR aE.z) (Kd.aU aq) hb);have ax:=k0 (Kd.b8 (aV anL.z) (Kd.aU aq) hb);have ay:=k0 (Kd.b8 (aV fM.z) (Kd.aU aq) hb);have anC:=k0 (Kd.cQ (aR eu.z) (Kd.aU aq) hb);have aD:=k0 (Kd.cH (Kd.cR (Kd.cR aq (Kd.bK (aR aE.z))) (Kd.bK (aR eu.z))) (anG bl));have anE:=kB aJ hb;have anP:=kB aZ hb;have bL:=k0 (anH bl hb);clear aE;clear anL;clear fM;clear eu;clear aJ;clear aZ;clear HB;have aE:=av;have anL:=ax;have fM:=ay;have eu:=anC;have ue:=aD;have aJ:=anE;have aZ:=anP;have HB:=bL;clear av ax ay anC aD anE anP bL;));go_upto_region 11 with (first|(go_at_call 45;(with_reducible refine (aoF.calls iW _ _ l0 t116 t117 _ ?aA ?anD eD.z).mono ?_);(case aA=>exact aC (Kd.dU dh.z HB.z));(case anD=>exact fI.z);rintro e apF ⟨Gl,rfl,aq,hb⟩;replace anL:=k0 (Kd.dz (aV anL.z) hb);have fM:=k0 (Kd.o5 (Kd.anJ (ok':=fun k_=>some k_ ≠ (cw:Value).ownBlock∧k_ ≠ bW) aq (fun k_ b9=>⟨(Kd.fresh' (Kd.bK (aR aE.z)) k_ b9),(Kd.oG (aB aJ.z) k_ b9)⟩)) (anG bl));replace aE:=k0 (Kd.dg (aR aE.z) hb);replace aJ:=kB aJ hb;replace HB:=k0 (anH bl hb);)|((with_reducible refine bN (N:=8) rfl ?_);(try (refine fV (by rfl) ?_;dsimp only));refine cE 8 #[.int .i64 0,.slice none 0 0] 31 ?_;intro cr hg Gr aG hb;replace aE:=k0 (Kd.dg (aR aE.z) hb);replace anL:=k0 (Kd.dz (Kd.ej (aV anL.z) cr (Nat.le_of_eq hg.symm)) hb);replace fM:=k0 (Kd.dz (Kd.ej (aV fM.z) cr (Nat.le_of_eq hg.symm)) hb);have aZ:=k0 (aG);have Bt:=gW hg (anG bl);have M3:=Bt;replace HB:=k0 (anH bl hb);have l7:=nL hg aJ;have rU:=nG l7;replace aJ:=kB aJ hb;clear hb aG hg;have De:=rU.z;have Df:=l7.z;have CN:=aX aZ;have CO:=aY aZ;have CV:=bF aZ 0;have CW:=bF aZ 1;obtain ⟨an2,dA,ry⟩:=Kd.nA fM.z;subst ry)|(go_at_call 46;(with_reducible refine (lf.calls iW t116 _ _ t117 t121 t124 _ ?aA ?anD GK.z).mono ?_);(case aA=>refine (Kd.cN (e:=28) (base:=w.heap.size) (ok:=fun k_=>((some k_ ≠ (cw:Value).ownBlock∧k_ ≠ bW)∧k_ ≠ cr)) (n:=t117.length) (c:=dA) ?_).2.2;exact (by (with_reducible repeat (first|apply Kd.cW|apply Kd.cX|apply Kd.cV));exact (Kd.anJ (Kd.bG (p:=⟨cr,1,none⟩) (Kd.bG (p:=⟨cr,0,none⟩) (Kd.anJ fM.z (fun k_ hk=>(⟨hk,hk.2⟩:_∧k_ ≠ cr))) (fun _ hk=>hk.2) (.int .i64 t116)) (fun _ hk=>hk.2) (.slice an2 t117.length dA)) (fun _ h_=>h_.1))));(case anD=>exact (Kd.cN fM.z).2.1);rintro e DZ ⟨lJ,rfl,aq,hb⟩;replace anL:=k0 (Kd.b8 (by (with_reducible repeat (first|apply Kd.cW|apply Kd.cX|apply Kd.cV));exact (Kd.anJ (Kd.bG (p:=⟨cr,1,none⟩) (Kd.bG (p:=⟨cr,0,none⟩) (Kd.anJ anL.z (fun k_ hk=>(⟨hk,hk.2⟩:_∧k_ ≠ cr))) (fun _ hk=>hk.2) (.int .i64 t116)) (fun _ hk=>hk.2) (.slice an2 t117.length dA)) (fun _ h_=>h_.1))) (Kd.aU aq) hb);replace fM:=k0 (Kd.b8 (by (with_reducible repeat (first|apply Kd.cW|apply Kd.cX|apply Kd.cV));exact (Kd.anJ (Kd.bG (p:=⟨cr,1,none⟩) (Kd.bG (p:=⟨cr,0,none⟩) (Kd.anJ fM.z (fun k_ hk=>(⟨hk,hk.2⟩:_∧k_ ≠ cr))) (fun _ hk=>hk.2) (.int .i64 t116)) (fun _ hk=>hk.2) (.slice an2 t117.length dA)) (fun _ h_=>h_.1))) (Kd.aU aq) hb);have eu:=k0 (Kd.cH (Kd.cR aq (Kd.bK (by (with_reducible repeat (first|apply Kd.b_|apply Kd.bZ|apply Kd.bP));exact (Kd.aT (gR 1 (.slice an2 t117.length dA) (gR 0 (.int .i64 t116) (tR aE aZ))) (fun _ h_=>h_.1))))) (anG bl));replace aE:=k0 (Kd.cQ (by (with_reducible repeat (first|apply Kd.b_|apply Kd.bZ|apply Kd.bP));exact (Kd.aT (gR 1 (.slice an2 t117.length dA) (gR 0 (.int .i64 t116) (tR aE aZ))) (fun _ h_=>h_.1))) (Kd.aU aq) hb);replace aJ:=k0 (cB (g:=bW) (o:=sO t102 eG t103 dZ 31) (by (with_reducible repeat (first|refine anF ?_ _|refine aH ?_|refine aI ?_ _));refine anU ?_ l7.z _;(with_reducible repeat (first|refine anF ?_ _|refine aH ?_|refine aI ?_ _));refine anU ?_ l7.z _;exact bk) hb);replace aZ:=k0 (cB (g:=cr) (o:=sO t116 an2 t117 dA 31) (by (with_reducible repeat (first|refine anF ?_ _|refine aH ?_|refine aI ?_ _));refine anV (cs:=#[.int .i64 t116,.slice none 0 0]) ?_ 1 _ rfl;(with_reducible repeat (first|refine anF ?_ _|refine aH ?_|refine aI ?_ _));refine anV (cs:=#[.int .i64 0,.slice none 0 0]) ?_ 0 _ rfl;exact bk) hb);replace HB:=k0 (anH bl hb);have CP:=aX aZ;have CQ:=aY aZ;have CX:=bF aZ 0;have CY:=bF aZ 1)|(go_at_call 47;(with_reducible refine (gw.calls iW t116 _ _ t117 t125 t128 _ ?aA ?anD vu.z).mono ?_);(case aA=>exact aC ((Kd.cN fM.z).2.2));(case anD=>exact (Kd.cN fM.z).2.1);rintro e D0 ⟨TC,rfl,aq,hb⟩;have av:=k0 (Kd.cQ (aR aE.z) (Kd.aU aq) hb);have ax:=k0 (Kd.b8 (aV anL.z) (Kd.aU aq) hb);have ay:=k0 (Kd.b8 (aV fM.z) (Kd.aU aq) hb);have anC:=k0 (Kd.cQ (aR eu.z) (Kd.aU aq) hb);have aD:=k0 (Kd.cH (Kd.cR (Kd.cR aq (Kd.bK (aR aE.z))) (Kd.bK (aR eu.z))) (anG bl));have anE:=kB aJ hb;have anP:=kB aZ hb;have bL:=k0 (anH bl hb);clear aE;clear anL;clear fM;clear eu;clear aJ;clear aZ;clear HB;have aE:=av;have anL:=ax;have fM:=ay;have eu:=anC;have ue:=aD;have aJ:=anE;have aZ:=anP;have HB:=bL;clear av ax ay anC aD anE anP bL;)))
     (try simp only [Act.put,zI,zZ,zS])
     go_cut [73] (fun v73 wc=>∃ (kq:Nat) (GB:Bool),v73=.bool GB∧ak (anR.j1 kq l0 t107 t110 t121 t124 GB t102 t103 t116 t117=some r)∧ak (kq≤iW)∧ak (Kd.R (Kd.int .i64) 2 wc w.heap.size (fun k_=>some k_ ≠ (lJ:Value).ownBlock) cw t107)∧ak (Kd.R (Kd.int .i64) 2 wc w.heap.size (fun k_=>some k_ ≠ (cw:Value).ownBlock) lJ t121)∧ak (Kd.V (Kd.slice 2 (Kd.int .i64)) 28 wc w.heap.size (fun k_=>some k_ ≠ (cw:Value).ownBlock∧some k_ ≠ (lJ:Value).ownBlock∧k_ ≠ bW∧k_ ≠ cr) (.slice eG t103.length dZ) t103)∧ak (Kd.V (Kd.slice 2 (Kd.int .i64)) 28 wc w.heap.size (fun k_=>some k_ ≠ (cw:Value).ownBlock∧some k_ ≠ (lJ:Value).ownBlock∧k_ ≠ bW∧k_ ≠ cr) (.slice an2 t117.length dA) t117)∧ak (wc.heap[bW]?=some (sO t102 eG t103 dZ 31))∧ak (wc.heap[cr]?=some (sO t116 an2 t117 dA 31))∧ak (Below w.heap.size w wc))
     case first =>
      have H:=G5.z
      clear G5
      by_cases c32:t124=t128
      case neg =>
       rw [if_neg c32] at H
       have Ai:(t124 == t128)=false:=beq_eq_false_iff_ne.mpr c32
       have XV:(t124 != t128)=true:=bne_iff_ne.mpr c32
       (first|rw [Ai]|(simp only [dX,eZ];rw [Ai])|skip)
       have H':=k0 H
       clear H
       go_wp2
       repeat (go_quiet (fail);try go_wp2)
       go_meet
       case rel=>exact ⟨_,(true),rs,H',⟨by have:=lQ.out;first|omega|exact Nat.le_refl _⟩,⟨aR (Kd.aT aE.z (fun _ hk=>hk.1.2))⟩,⟨aR (Kd.aT eu.z (fun _ hk=>hk.1.2))⟩,⟨aV (Kd.anJ anL.z (fun _ hk=>⟨hk.1.1.1.1,⟨hk.1.2,⟨hk.1.1.1.2,hk.1.1.2⟩⟩⟩))⟩,⟨aV (Kd.anJ fM.z (fun _ hk=>⟨hk.1.1.1.1,⟨hk.1.2,⟨hk.1.1.1.2,hk.1.1.2⟩⟩⟩))⟩,⟨bk⟩,⟨bk⟩,⟨bl⟩⟩
      rw [if_pos c32] at H
      have Ai:(t124 == t128)=true:=beq_iff_eq.mpr c32
      have XV:(t124 != t128)=false:=bne_eq_false_iff_eq.mpr c32
      clear c32
      (first|rw [Ai]|(simp only [dX,eZ];rw [Ai])|skip)
      replace H:=Option.bind_eq_some_iff.mp H
      obtain ⟨t129,Mj,H⟩:=H
      replace H:(anR.j1 iW l0 t107 t110 t121 t124 (!t129) t102 t103 t116 t117)=some r:=H
      have GL:=k0 Mj
      clear Mj
      have H':=k0 H
      clear H
      obtain ⟨wZ,xJ,Cr⟩:=Kd.cK eu.z
      subst Cr
      obtain ⟨tZ,uA,xM⟩:=Kd.cK ue.z
      subst xM
      go_wp2_with (first|(go_at_call 44;(with_reducible refine (ef.calls iW _ _ t121 _ _ t125 t129 _ ?aA ?anD ?cP ?dB GL.z).mono ?_);(case aA=>exact aC ((Kd.anT eu.z).2.2));(case anD=>exact (Kd.anT eu.z).2.1);(case cP=>exact aC ((Kd.anT ue.z).2.2));(case dB=>exact (Kd.anT ue.z).2.1);rintro e w' ⟨rfl,⟨nd,rfl⟩⟩;(try exact dN)))
      repeat (go_quiet (first|(go_at_call 44;(with_reducible refine (ef.calls iW _ _ t121 _ _ t125 t129 _ ?aA ?anD ?cP ?dB GL.z).mono ?_);(case aA=>exact aC ((Kd.anT eu.z).2.2));(case anD=>exact (Kd.anT eu.z).2.1);(case cP=>exact aC ((Kd.anT ue.z).2.2));(case dB=>exact (Kd.anT ue.z).2.1);rintro e w' ⟨rfl,⟨nd,rfl⟩⟩;(try exact dN)));try go_wp2_with (first|(go_at_call 44;(with_reducible refine (ef.calls iW _ _ t121 _ _ t125 t129 _ ?aA ?anD ?cP ?dB GL.z).mono ?_);(case aA=>exact aC ((Kd.anT eu.z).2.2));(case anD=>exact (Kd.anT eu.z).2.1);(case cP=>exact aC ((Kd.anT ue.z).2.2));(case dB=>exact (Kd.anT ue.z).2.1);rintro e w' ⟨rfl,⟨nd,rfl⟩⟩;(try exact dN))))
      go_meet
      case rel=>exact ⟨_,(!t129),rs,H',⟨by have:=lQ.out;first|omega|exact Nat.le_refl _⟩,⟨aR (Kd.aT aE.z (fun _ hk=>hk.1.2))⟩,⟨aR (Kd.aT eu.z (fun _ hk=>hk.1.2))⟩,⟨aV (Kd.anJ anL.z (fun _ hk=>⟨hk.1.1.1.1,⟨hk.1.2,⟨hk.1.1.1.2,hk.1.1.2⟩⟩⟩))⟩,⟨aV (Kd.anJ fM.z (fun _ hk=>⟨hk.1.1.1.1,⟨hk.1.2,⟨hk.1.1.1.2,hk.1.1.2⟩⟩⟩))⟩,⟨bk⟩,⟨bk⟩,⟨bl⟩⟩
     case rest=>as_aux_lemma =>
      clear G5
      obtain ⟨kq,GB,rfl,HA,mJ,aE,fK,anL,bw,aJ,aZ,HB⟩:=hcut
      cases kq with
      | zero=>exact absurd HA.z (by simp [anR.j1])
      | succ iV =>
       have H:=HA.z
       clear HA
       simp only [anR.j1] at H
       by_cases c36:GB=true
       case neg =>
        replace c36:=Bool.eq_false_iff.mpr c36
        subst c36
        have H1:((ow.f iV l0).bind fun eg=>((nh.f iV eg.1 eg.2).bind fun mh=>((mH.f iV eg.1 eg.2).bind fun r7=>(if mh.2=r7.2 then ((ef.f iV mh.1 r7.1).bind fun t143=>(anR.j2 iV t107 t110 t121 t124 mh.1 mh.2 (!t143) t102 t103 t116 t117 eg.1 eg.2)) else (anR.j2 iV t107 t110 t121 t124 mh.1 mh.2 true t102 t103 t116 t117 eg.1 eg.2)))))=some r:=by rw [if_neg (show ¬ (false=true) by decide)] at H;exact H
        clear H
        have H:=H1
        clear H1
        replace H:=Option.bind_eq_some_iff.mp H
        obtain ⟨⟨t130,t131⟩,Mk,H⟩:=H
        replace H:((nh.f iV t130 t131).bind fun mh=>((mH.f iV t130 t131).bind fun r7=>(if mh.2=r7.2 then ((ef.f iV mh.1 r7.1).bind fun t143=>(anR.j2 iV t107 t110 t121 t124 mh.1 mh.2 (!t143) t102 t103 t116 t117 t130 t131)) else (anR.j2 iV t107 t110 t121 t124 mh.1 mh.2 true t102 t103 t116 t117 t130 t131))))=some r:=H
        have GM:=k0 Mk
        clear Mk
        replace H:=Option.bind_eq_some_iff.mp H
        obtain ⟨⟨t135,t138⟩,Ml,H⟩:=H
        replace H:((mH.f iV t130 t131).bind fun r7=>(if t138=r7.2 then ((ef.f iV t135 r7.1).bind fun t143=>(anR.j2 iV t107 t110 t121 t124 t135 t138 (!t143) t102 t103 t116 t117 t130 t131)) else (anR.j2 iV t107 t110 t121 t124 t135 t138 true t102 t103 t116 t117 t130 t131)))=some r:=H
        have GN:=k0 Ml
        clear Ml
        replace H:=Option.bind_eq_some_iff.mp H
        obtain ⟨⟨t139,t142⟩,Mm,H⟩:=H
        replace H:(if t138=t142 then ((ef.f iV t135 t139).bind fun t143=>(anR.j2 iV t107 t110 t121 t124 t135 t138 (!t143) t102 t103 t116 t117 t130 t131)) else (anR.j2 iV t107 t110 t121 t124 t135 t138 true t102 t103 t116 t117 t130 t131))=some r:=H
        have GO:=k0 Mm
        clear Mm
        have G6:=k0 H
        clear H
        go_upto_region 16 with (first|(go_at_call 48;(with_reducible refine (ow.calls iV _ _ l0 t130 t131 _ ?aA ?anD GM.z).mono ?_);(case aA=>exact aC (Kd.dU dh.z HB.z));(case anD=>exact fI.z);rintro e TZ ⟨LM,rfl,aq,hb⟩;have av:=k0 (Kd.dg (aR aE.z) hb);have ax:=k0 (Kd.dg (aR fK.z) hb);have ay:=k0 (Kd.dz (aV anL.z) hb);have anC:=k0 (Kd.dz (aV bw.z) hb);have aD:=k0 (Kd.o5 (Kd.anJ (ok':=fun k_=>some k_ ≠ (cw:Value).ownBlock∧some k_ ≠ (lJ:Value).ownBlock∧k_ ≠ bW∧k_ ≠ cr) aq (fun k_ b9=>⟨(Kd.fresh' (Kd.bK (aR aE.z)) k_ b9),(Kd.fresh' (Kd.bK (aR fK.z)) k_ b9),(Kd.oG (aB aJ.z) k_ b9),(Kd.oG (aB aZ.z) k_ b9)⟩)) (anG bl));have anE:=kB aJ hb;have anP:=kB aZ hb;have bL:=k0 (anH bl hb);clear aE;clear fK;clear anL;clear bw;clear aJ;clear aZ;clear HB;have aE:=av;have fK:=ax;have anL:=ay;have bw:=anC;have fJ:=aD;have aJ:=anE;have aZ:=anP;have HB:=bL;clear av ax ay anC aD anE anP bL;)|((with_reducible refine bN (N:=13) rfl ?_);(try (refine fV (by rfl) ?_;dsimp only));refine cE 13 #[.int .i64 0,.slice none 0 0] 31 ?_;intro cj hg LW aG hb;have av:=k0 (Kd.dg (aR aE.z) hb);have ax:=k0 (Kd.dg (aR fK.z) hb);have ay:=k0 (Kd.dz (Kd.ej (aV anL.z) cj (Nat.le_of_eq hg.symm)) hb);have anC:=k0 (Kd.dz (Kd.ej (aV bw.z) cj (Nat.le_of_eq hg.symm)) hb);have aD:=k0 (Kd.dz (Kd.ej (aV fJ.z) cj (Nat.le_of_eq hg.symm)) hb);have anE:=kB aJ hb;have anP:=kB aZ hb;have bL:=k0 (anH bl hb);have b6:=k0 (aG);have cM:=k0 ((by rw [hg];exact (anG bl):w.heap.size≤cj));have fe:=k0 ((by rw [hg];exact (anG bl):w.heap.size≤cj));have gp:=nL hg aJ;have gB:=nG gp;have fk:=nL hg aZ;have iq:=nG fk;clear aE;clear fK;clear anL;clear bw;clear fJ;clear aJ;clear aZ;clear HB;have aE:=av;have fK:=ax;have anL:=ay;have bw:=anC;have fJ:=aD;have aJ:=anE;have aZ:=anP;have HB:=bL;have anN:=b6;have M8:=cM;have M4:=fe;have jW:=gp;have l8:=gB;have lp:=fk;have oy:=iq;clear av ax ay anC aD anE anP bL b6 cM fe gp gB fk iq;clear hb aG hg;have RF:=l8.z;have RX:=jW.z;have J1:=oy.z;have J5:=lp.z;have JC:=aX anN;have JD:=aY anN;have JR:=bF anN 0;have JS:=bF anN 1;obtain ⟨d_,dQ,uC⟩:=Kd.nA fJ.z;subst uC)|(go_at_call 49;(with_reducible refine (nh.calls iV t130 _ _ t131 t135 t138 _ ?aA ?anD GN.z).mono ?_);(case aA=>refine (Kd.cN (e:=28) (base:=w.heap.size) (ok:=fun k_=>((some k_ ≠ (cw:Value).ownBlock∧(some k_ ≠ (lJ:Value).ownBlock∧(k_ ≠ bW∧k_ ≠ cr)))∧k_ ≠ cj)) (n:=t131.length) (c:=dQ) ?_).2.2;exact (by (with_reducible repeat (first|apply Kd.cW|apply Kd.cX|apply Kd.cV));exact (Kd.anJ (Kd.bG (p:=⟨cj,1,none⟩) (Kd.bG (p:=⟨cj,0,none⟩) (Kd.anJ fJ.z (fun k_ hk=>(⟨hk,hk.2⟩:_∧k_ ≠ cj))) (fun _ hk=>hk.2) (.int .i64 t130)) (fun _ hk=>hk.2) (.slice d_ t131.length dQ)) (fun _ h_=>h_.1))));(case anD=>exact (Kd.cN fJ.z).2.1);rintro e LX ⟨aov,rfl,aq,hb⟩;replace anL:=k0 (Kd.b8 (by (with_reducible repeat (first|apply Kd.cW|apply Kd.cX|apply Kd.cV));exact (Kd.anJ (Kd.bG (p:=⟨cj,1,none⟩) (Kd.bG (p:=⟨cj,0,none⟩) (Kd.anJ anL.z (fun k_ hk=>(⟨hk,hk.2⟩:_∧k_ ≠ cj))) (fun _ hk=>hk.2) (.int .i64 t130)) (fun _ hk=>hk.2) (.slice d_ t131.length dQ)) (fun _ h_=>h_.1))) (Kd.aU aq) hb);replace bw:=k0 (Kd.b8 (by (with_reducible repeat (first|apply Kd.cW|apply Kd.cX|apply Kd.cV));exact (Kd.anJ (Kd.bG (p:=⟨cj,1,none⟩) (Kd.bG (p:=⟨cj,0,none⟩) (Kd.anJ bw.z (fun k_ hk=>(⟨hk,hk.2⟩:_∧k_ ≠ cj))) (fun _ hk=>hk.2) (.int .i64 t130)) (fun _ hk=>hk.2) (.slice d_ t131.length dQ)) (fun _ h_=>h_.1))) (Kd.aU aq) hb);replace fJ:=k0 (Kd.b8 (by (with_reducible repeat (first|apply Kd.cW|apply Kd.cX|apply Kd.cV));exact (Kd.anJ (Kd.bG (p:=⟨cj,1,none⟩) (Kd.bG (p:=⟨cj,0,none⟩) (Kd.anJ fJ.z (fun k_ hk=>(⟨hk,hk.2⟩:_∧k_ ≠ cj))) (fun _ hk=>hk.2) (.int .i64 t130)) (fun _ hk=>hk.2) (.slice d_ t131.length dQ)) (fun _ h_=>h_.1))) (Kd.aU aq) hb);have jH:=k0 (Kd.cH (Kd.cR (Kd.cR aq (Kd.bK (by (with_reducible repeat (first|apply Kd.b_|apply Kd.bZ|apply Kd.bP));exact (Kd.aT (gR 1 (.slice d_ t131.length dQ) (gR 0 (.int .i64 t130) (tR aE anN))) (fun _ h_=>h_.1))))) (Kd.bK (by (with_reducible repeat (first|apply Kd.b_|apply Kd.bZ|apply Kd.bP));exact (Kd.aT (gR 1 (.slice d_ t131.length dQ) (gR 0 (.int .i64 t130) (tR fK anN))) (fun _ h_=>h_.1))))) (anG bl));replace aE:=k0 (Kd.cQ (by (with_reducible repeat (first|apply Kd.b_|apply Kd.bZ|apply Kd.bP));exact (Kd.aT (gR 1 (.slice d_ t131.length dQ) (gR 0 (.int .i64 t130) (tR aE anN))) (fun _ h_=>h_.1))) (Kd.aU aq) hb);replace fK:=k0 (Kd.cQ (by (with_reducible repeat (first|apply Kd.b_|apply Kd.bZ|apply Kd.bP));exact (Kd.aT (gR 1 (.slice d_ t131.length dQ) (gR 0 (.int .i64 t130) (tR fK anN))) (fun _ h_=>h_.1))) (Kd.aU aq) hb);replace aJ:=k0 (cB (g:=bW) (o:=sO t102 eG t103 dZ 31) (by (with_reducible repeat (first|refine anF ?_ _|refine aH ?_|refine aI ?_ _));refine anU ?_ jW.z _;(with_reducible repeat (first|refine anF ?_ _|refine aH ?_|refine aI ?_ _));refine anU ?_ jW.z _;exact bk) hb);replace aZ:=k0 (cB (g:=cr) (o:=sO t116 an2 t117 dA 31) (by (with_reducible repeat (first|refine anF ?_ _|refine aH ?_|refine aI ?_ _));refine anU ?_ lp.z _;(with_reducible repeat (first|refine anF ?_ _|refine aH ?_|refine aI ?_ _));refine anU ?_ lp.z _;exact bk) hb);replace anN:=k0 (cB (g:=cj) (o:=sO t130 d_ t131 dQ 31) (by (with_reducible repeat (first|refine anF ?_ _|refine aH ?_|refine aI ?_ _));refine anV (cs:=#[.int .i64 t130,.slice none 0 0]) ?_ 1 _ rfl;(with_reducible repeat (first|refine anF ?_ _|refine aH ?_|refine aI ?_ _));refine anV (cs:=#[.int .i64 0,.slice none 0 0]) ?_ 0 _ rfl;exact bk) hb);replace HB:=k0 (anH bl hb);have JE:=aX anN;have JF:=aY anN;have JT:=bF anN 0;have JU:=bF anN 1)|(go_at_call 50;(with_reducible refine (mH.calls iV t130 _ _ t131 t139 t142 _ ?aA ?anD GO.z).mono ?_);(case aA=>exact aC ((Kd.cN fJ.z).2.2));(case anD=>exact (Kd.cN fJ.z).2.1);rintro e LY ⟨LN,rfl,aq,hb⟩;have av:=k0 (Kd.cQ (aR aE.z) (Kd.aU aq) hb);have ax:=k0 (Kd.cQ (aR fK.z) (Kd.aU aq) hb);have ay:=k0 (Kd.b8 (aV anL.z) (Kd.aU aq) hb);have anC:=k0 (Kd.b8 (aV bw.z) (Kd.aU aq) hb);have aD:=k0 (Kd.b8 (aV fJ.z) (Kd.aU aq) hb);have anE:=k0 (Kd.cQ (aR jH.z) (Kd.aU aq) hb);have anP:=k0 (Kd.cH (Kd.cR (Kd.cR (Kd.cR aq (Kd.bK (aR aE.z))) (Kd.bK (aR fK.z))) (Kd.bK (aR jH.z))) (anG bl));have bL:=kB aJ hb;have b6:=kB aZ hb;have cM:=kB anN hb;have fe:=k0 (anH bl hb);clear aE;clear fK;clear anL;clear bw;clear fJ;clear jH;clear aJ;clear aZ;clear anN;clear HB;have aE:=av;have fK:=ax;have anL:=ay;have bw:=anC;have fJ:=aD;have jH:=anE;have pX:=anP;have aJ:=bL;have aZ:=b6;have anN:=cM;have HB:=fe;clear av ax ay anC aD anE anP bL b6 cM fe;))
        repeat (go_quiet (first|(go_at_call 48;(with_reducible refine (ow.calls iV _ _ l0 t130 t131 _ ?aA ?anD GM.z).mono ?_);(case aA=>exact aC (Kd.dU dh.z HB.z));(case anD=>exact fI.z);rintro e TZ ⟨LM,rfl,aq,hb⟩;have av:=k0 (Kd.dg (aR aE.z) hb);have ax:=k0 (Kd.dg (aR fK.z) hb);have ay:=k0 (Kd.dz (aV anL.z) hb);have anC:=k0 (Kd.dz (aV bw.z) hb);have aD:=k0 (Kd.o5 (Kd.anJ (ok':=fun k_=>some k_ ≠ (cw:Value).ownBlock∧some k_ ≠ (lJ:Value).ownBlock∧k_ ≠ bW∧k_ ≠ cr) aq (fun k_ b9=>⟨(Kd.fresh' (Kd.bK (aR aE.z)) k_ b9),(Kd.fresh' (Kd.bK (aR fK.z)) k_ b9),(Kd.oG (aB aJ.z) k_ b9),(Kd.oG (aB aZ.z) k_ b9)⟩)) (anG bl));have anE:=kB aJ hb;have anP:=kB aZ hb;have bL:=k0 (anH bl hb);clear aE;clear fK;clear anL;clear bw;clear aJ;clear aZ;clear HB;have aE:=av;have fK:=ax;have anL:=ay;have bw:=anC;have fJ:=aD;have aJ:=anE;have aZ:=anP;have HB:=bL;clear av ax ay anC aD anE anP bL;)|((with_reducible refine bN (N:=13) rfl ?_);(try (refine fV (by rfl) ?_;dsimp only));refine cE 13 #[.int .i64 0,.slice none 0 0] 31 ?_;intro cj hg LW aG hb;have av:=k0 (Kd.dg (aR aE.z) hb);have ax:=k0 (Kd.dg (aR fK.z) hb);have ay:=k0 (Kd.dz (Kd.ej (aV anL.z) cj (Nat.le_of_eq hg.symm)) hb);have anC:=k0 (Kd.dz (Kd.ej (aV bw.z) cj (Nat.le_of_eq hg.symm)) hb);have aD:=k0 (Kd.dz (Kd.ej (aV fJ.z) cj (Nat.le_of_eq hg.symm)) hb);have anE:=kB aJ hb;have anP:=kB aZ hb;have bL:=k0 (anH bl hb);have b6:=k0 (aG);have cM:=k0 ((by rw [hg];exact (anG bl):w.heap.size≤cj));have fe:=k0 ((by rw [hg];exact (anG bl):w.heap.size≤cj));have gp:=nL hg aJ;have gB:=nG gp;have fk:=nL hg aZ;have iq:=nG fk;clear aE;clear fK;clear anL;clear bw;clear fJ;clear aJ;clear aZ;clear HB;have aE:=av;have fK:=ax;have anL:=ay;have bw:=anC;have fJ:=aD;have aJ:=anE;have aZ:=anP;have HB:=bL;have anN:=b6;have M8:=cM;have M4:=fe;have jW:=gp;have l8:=gB;have lp:=fk;have oy:=iq;clear av ax ay anC aD anE anP bL b6 cM fe gp gB fk iq;clear hb aG hg;have RF:=l8.z;have RX:=jW.z;have J1:=oy.z;have J5:=lp.z;have JC:=aX anN;have JD:=aY anN;have JR:=bF anN 0;have JS:=bF anN 1;obtain ⟨d_,dQ,uC⟩:=Kd.nA fJ.z;subst uC)|(go_at_call 49;(with_reducible refine (nh.calls iV t130 _ _ t131 t135 t138 _ ?aA ?anD GN.z).mono ?_);(case aA=>refine (Kd.cN (e:=28) (base:=w.heap.size) (ok:=fun k_=>((some k_ ≠ (cw:Value).ownBlock∧(some k_ ≠ (lJ:Value).ownBlock∧(k_ ≠ bW∧k_ ≠ cr)))∧k_ ≠ cj)) (n:=t131.length) (c:=dQ) ?_).2.2;exact (by (with_reducible repeat (first|apply Kd.cW|apply Kd.cX|apply Kd.cV));exact (Kd.anJ (Kd.bG (p:=⟨cj,1,none⟩) (Kd.bG (p:=⟨cj,0,none⟩) (Kd.anJ fJ.z (fun k_ hk=>(⟨hk,hk.2⟩:_∧k_ ≠ cj))) (fun _ hk=>hk.2) (.int .i64 t130)) (fun _ hk=>hk.2) (.slice d_ t131.length dQ)) (fun _ h_=>h_.1))));(case anD=>exact (Kd.cN fJ.z).2.1);rintro e LX ⟨aov,rfl,aq,hb⟩;replace anL:=k0 (Kd.b8 (by (with_reducible repeat (first|apply Kd.cW|apply Kd.cX|apply Kd.cV));exact (Kd.anJ (Kd.bG (p:=⟨cj,1,none⟩) (Kd.bG (p:=⟨cj,0,none⟩) (Kd.anJ anL.z (fun k_ hk=>(⟨hk,hk.2⟩:_∧k_ ≠ cj))) (fun _ hk=>hk.2) (.int .i64 t130)) (fun _ hk=>hk.2) (.slice d_ t131.length dQ)) (fun _ h_=>h_.1))) (Kd.aU aq) hb);replace bw:=k0 (Kd.b8 (by (with_reducible repeat (first|apply Kd.cW|apply Kd.cX|apply Kd.cV));exact (Kd.anJ (Kd.bG (p:=⟨cj,1,none⟩) (Kd.bG (p:=⟨cj,0,none⟩) (Kd.anJ bw.z (fun k_ hk=>(⟨hk,hk.2⟩:_∧k_ ≠ cj))) (fun _ hk=>hk.2) (.int .i64 t130)) (fun _ hk=>hk.2) (.slice d_ t131.length dQ)) (fun _ h_=>h_.1))) (Kd.aU aq) hb);replace fJ:=k0 (Kd.b8 (by (with_reducible repeat (first|apply Kd.cW|apply Kd.cX|apply Kd.cV));exact (Kd.anJ (Kd.bG (p:=⟨cj,1,none⟩) (Kd.bG (p:=⟨cj,0,none⟩) (Kd.anJ fJ.z (fun k_ hk=>(⟨hk,hk.2⟩:_∧k_ ≠ cj))) (fun _ hk=>hk.2) (.int .i64 t130)) (fun _ hk=>hk.2) (.slice d_ t131.length dQ)) (fun _ h_=>h_.1))) (Kd.aU aq) hb);have jH:=k0 (Kd.cH (Kd.cR (Kd.cR aq (Kd.bK (by (with_reducible repeat (first|apply Kd.b_|apply Kd.bZ|apply Kd.bP));exact (Kd.aT (gR 1 (.slice d_ t131.length dQ) (gR 0 (.int .i64 t130) (tR aE anN))) (fun _ h_=>h_.1))))) (Kd.bK (by (with_reducible repeat (first|apply Kd.b_|apply Kd.bZ|apply Kd.bP));exact (Kd.aT (gR 1 (.slice d_ t131.length dQ) (gR 0 (.int .i64 t130) (tR fK anN))) (fun _ h_=>h_.1))))) (anG bl));replace aE:=k0 (Kd.cQ (by (with_reducible repeat (first|apply Kd.b_|apply Kd.bZ|apply Kd.bP));exact (Kd.aT (gR 1 (.slice d_ t131.length dQ) (gR 0 (.int .i64 t130) (tR aE anN))) (fun _ h_=>h_.1))) (Kd.aU aq) hb);replace fK:=k0 (Kd.cQ (by (with_reducible repeat (first|apply Kd.b_|apply Kd.bZ|apply Kd.bP));exact (Kd.aT (gR 1 (.slice d_ t131.length dQ) (gR 0 (.int .i64 t130) (tR fK anN))) (fun _ h_=>h_.1))) (Kd.aU aq) hb);replace aJ:=k0 (cB (g:=bW) (o:=sO t102 eG t103 dZ 31) (by (with_reducible repeat (first|refine anF ?_ _|refine aH ?_|refine aI ?_ _));refine anU ?_ jW.z _;(with_reducible repeat (first|refine anF ?_ _|refine aH ?_|refine aI ?_ _));refine anU ?_ jW.z _;exact bk) hb);replace aZ:=k0 (cB (g:=cr) (o:=sO t116 an2 t117 dA 31) (by (with_reducible repeat (first|refine anF ?_ _|refine aH ?_|refine aI ?_ _));refine anU ?_ lp.z _;(with_reducible repeat (first|refine anF ?_ _|refine aH ?_|refine aI ?_ _));refine anU ?_ lp.z _;exact bk) hb);replace anN:=k0 (cB (g:=cj) (o:=sO t130 d_ t131 dQ 31) (by (with_reducible repeat (first|refine anF ?_ _|refine aH ?_|refine aI ?_ _));refine anV (cs:=#[.int .i64 t130,.slice none 0 0]) ?_ 1 _ rfl;(with_reducible repeat (first|refine anF ?_ _|refine aH ?_|refine aI ?_ _));refine anV (cs:=#[.int .i64 0,.slice none 0 0]) ?_ 0 _ rfl;exact bk) hb);replace HB:=k0 (anH bl hb);have JE:=aX anN;have JF:=aY anN;have JT:=bF anN 0;have JU:=bF anN 1)|(go_at_call 50;(with_reducible refine (mH.calls iV t130 _ _ t131 t139 t142 _ ?aA ?anD GO.z).mono ?_);(case aA=>exact aC ((Kd.cN fJ.z).2.2));(case anD=>exact (Kd.cN fJ.z).2.1);rintro e LY ⟨LN,rfl,aq,hb⟩;have av:=k0 (Kd.cQ (aR aE.z) (Kd.aU aq) hb);have ax:=k0 (Kd.cQ (aR fK.z) (Kd.aU aq) hb);have ay:=k0 (Kd.b8 (aV anL.z) (Kd.aU aq) hb);have anC:=k0 (Kd.b8 (aV bw.z) (Kd.aU aq) hb);have aD:=k0 (Kd.b8 (aV fJ.z) (Kd.aU aq) hb);have anE:=k0 (Kd.cQ (aR jH.z) (Kd.aU aq) hb);have anP:=k0 (Kd.cH (Kd.cR (Kd.cR (Kd.cR aq (Kd.bK (aR aE.z))) (Kd.bK (aR fK.z))) (Kd.bK (aR jH.z))) (anG bl));have bL:=kB aJ hb;have b6:=kB aZ hb;have cM:=kB anN hb;have fe:=k0 (anH bl hb);clear aE;clear fK;clear anL;clear bw;clear fJ;clear jH;clear aJ;clear aZ;clear anN;clear HB;have aE:=av;have fK:=ax;have anL:=ay;have bw:=anC;have fJ:=aD;have jH:=anE;have pX:=anP;have aJ:=bL;have aZ:=b6;have anN:=cM;have HB:=fe;clear av ax ay anC aD anE anP bL b6 cM fe;));go_upto_region 16 with (first|(go_at_call 48;(with_reducible refine (ow.calls iV _ _ l0 t130 t131 _ ?aA ?anD GM.z).mono ?_);(case aA=>exact aC (Kd.dU dh.z HB.z));(case anD=>exact fI.z);rintro e TZ ⟨LM,rfl,aq,hb⟩;have av:=k0 (Kd.dg (aR aE.z) hb);have ax:=k0 (Kd.dg (aR fK.z) hb);have ay:=k0 (Kd.dz (aV anL.z) hb);have anC:=k0 (Kd.dz (aV bw.z) hb);have aD:=k0 (Kd.o5 (Kd.anJ (ok':=fun k_=>some k_ ≠ (cw:Value).ownBlock∧some k_ ≠ (lJ:Value).ownBlock∧k_ ≠ bW∧k_ ≠ cr) aq (fun k_ b9=>⟨(Kd.fresh' (Kd.bK (aR aE.z)) k_ b9),(Kd.fresh' (Kd.bK (aR fK.z)) k_ b9),(Kd.oG (aB aJ.z) k_ b9),(Kd.oG (aB aZ.z) k_ b9)⟩)) (anG bl));have anE:=kB aJ hb;have anP:=kB aZ hb;have bL:=k0 (anH bl hb);clear aE;clear fK;clear anL;clear bw;clear aJ;clear aZ;clear HB;have aE:=av;have fK:=ax;have anL:=ay;have bw:=anC;have fJ:=aD;have aJ:=anE;have aZ:=anP;have HB:=bL;clear av ax ay anC aD anE anP bL;)|((with_reducible refine bN (N:=13) rfl ?_);(try (refine fV (by rfl) ?_;dsimp only));refine cE 13 #[.int .i64 0,.slice none 0 0] 31 ?_;intro cj hg LW aG hb;have av:=k0 (Kd.dg (aR aE.z) hb);have ax:=k0 (Kd.dg (aR fK.z) hb);have ay:=k0 (Kd.dz (Kd.ej (aV anL.z) cj (Nat.le_of_eq hg.symm)) hb);have anC:=k0 (Kd.dz (Kd.ej (aV bw.z) cj (Nat.le_of_eq hg.symm)) hb);have aD:=k0 (Kd.dz (Kd.ej (aV fJ.z) cj (Nat.le_of_eq hg.symm)) hb);have anE:=kB aJ hb;have anP:=kB aZ hb;have bL:=k0 (anH bl hb);have b6:=k0 (aG);have cM:=k0 ((by rw [hg];exact (anG bl):w.heap.size≤cj));have fe:=k0 ((by rw [hg];exact (anG bl):w.heap.size≤cj));have gp:=nL hg aJ;have gB:=nG gp;have fk:=nL hg aZ;have iq:=nG fk;clear aE;clear fK;clear anL;clear bw;clear fJ;clear aJ;clear aZ;clear HB;have aE:=av;have fK:=ax;have anL:=ay;have bw:=anC;have fJ:=aD;have aJ:=anE;have aZ:=anP;have HB:=bL;have anN:=b6;have M8:=cM;have M4:=fe;have jW:=gp;have l8:=gB;have lp:=fk;have oy:=iq;clear av ax ay anC aD anE anP bL b6 cM fe gp gB fk iq;clear hb aG hg;have RF:=l8.z;have RX:=jW.z;have J1:=oy.z;have J5:=lp.z;have JC:=aX anN;have JD:=aY anN;have JR:=bF anN 0;have JS:=bF anN 1;obtain ⟨d_,dQ,uC⟩:=Kd.nA fJ.z;subst uC)|(go_at_call 49;(with_reducible refine (nh.calls iV t130 _ _ t131 t135 t138 _ ?aA ?anD GN.z).mono ?_);(case aA=>refine (Kd.cN (e:=28) (base:=w.heap.size) (ok:=fun k_=>((some k_ ≠ (cw:Value).ownBlock∧(some k_ ≠ (lJ:Value).ownBlock∧(k_ ≠ bW∧k_ ≠ cr)))∧k_ ≠ cj)) (n:=t131.length) (c:=dQ) ?_).2.2;exact (by (with_reducible repeat (first|apply Kd.cW|apply Kd.cX|apply Kd.cV));exact (Kd.anJ (Kd.bG (p:=⟨cj,1,none⟩) (Kd.bG (p:=⟨cj,0,none⟩) (Kd.anJ fJ.z (fun k_ hk=>(⟨hk,hk.2⟩:_∧k_ ≠ cj))) (fun _ hk=>hk.2) (.int .i64 t130)) (fun _ hk=>hk.2) (.slice d_ t131.length dQ)) (fun _ h_=>h_.1))));(case anD=>exact (Kd.cN fJ.z).2.1);rintro e LX ⟨aov,rfl,aq,hb⟩;replace anL:=k0 (Kd.b8 (by (with_reducible repeat (first|apply Kd.cW|apply Kd.cX|apply Kd.cV));exact (Kd.anJ (Kd.bG (p:=⟨cj,1,none⟩) (Kd.bG (p:=⟨cj,0,none⟩) (Kd.anJ anL.z (fun k_ hk=>(⟨hk,hk.2⟩:_∧k_ ≠ cj))) (fun _ hk=>hk.2) (.int .i64 t130)) (fun _ hk=>hk.2) (.slice d_ t131.length dQ)) (fun _ h_=>h_.1))) (Kd.aU aq) hb);replace bw:=k0 (Kd.b8 (by (with_reducible repeat (first|apply Kd.cW|apply Kd.cX|apply Kd.cV));exact (Kd.anJ (Kd.bG (p:=⟨cj,1,none⟩) (Kd.bG (p:=⟨cj,0,none⟩) (Kd.anJ bw.z (fun k_ hk=>(⟨hk,hk.2⟩:_∧k_ ≠ cj))) (fun _ hk=>hk.2) (.int .i64 t130)) (fun _ hk=>hk.2) (.slice d_ t131.length dQ)) (fun _ h_=>h_.1))) (Kd.aU aq) hb);replace fJ:=k0 (Kd.b8 (by (with_reducible repeat (first|apply Kd.cW|apply Kd.cX|apply Kd.cV));exact (Kd.anJ (Kd.bG (p:=⟨cj,1,none⟩) (Kd.bG (p:=⟨cj,0,none⟩) (Kd.anJ fJ.z (fun k_ hk=>(⟨hk,hk.2⟩:_∧k_ ≠ cj))) (fun _ hk=>hk.2) (.int .i64 t130)) (fun _ hk=>hk.2) (.slice d_ t131.length dQ)) (fun _ h_=>h_.1))) (Kd.aU aq) hb);have jH:=k0 (Kd.cH (Kd.cR (Kd.cR aq (Kd.bK (by (with_reducible repeat (first|apply Kd.b_|apply Kd.bZ|apply Kd.bP));exact (Kd.aT (gR 1 (.slice d_ t131.length dQ) (gR 0 (.int .i64 t130) (tR aE anN))) (fun _ h_=>h_.1))))) (Kd.bK (by (with_reducible repeat (first|apply Kd.b_|apply Kd.bZ|apply Kd.bP));exact (Kd.aT (gR 1 (.slice d_ t131.length dQ) (gR 0 (.int .i64 t130) (tR fK anN))) (fun _ h_=>h_.1))))) (anG bl));replace aE:=k0 (Kd.cQ (by (with_reducible repeat (first|apply Kd.b_|apply Kd.bZ|apply Kd.bP));exact (Kd.aT (gR 1 (.slice d_ t131.length dQ) (gR 0 (.int .i64 t130) (tR aE anN))) (fun _ h_=>h_.1))) (Kd.aU aq) hb);replace fK:=k0 (Kd.cQ (by (with_reducible repeat (first|apply Kd.b_|apply Kd.bZ|apply Kd.bP));exact (Kd.aT (gR 1 (.slice d_ t131.length dQ) (gR 0 (.int .i64 t130) (tR fK anN))) (fun _ h_=>h_.1))) (Kd.aU aq) hb);replace aJ:=k0 (cB (g:=bW) (o:=sO t102 eG t103 dZ 31) (by (with_reducible repeat (first|refine anF ?_ _|refine aH ?_|refine aI ?_ _));refine anU ?_ jW.z _;(with_reducible repeat (first|refine anF ?_ _|refine aH ?_|refine aI ?_ _));refine anU ?_ jW.z _;exact bk) hb);replace aZ:=k0 (cB (g:=cr) (o:=sO t116 an2 t117 dA 31) (by (with_reducible repeat (first|refine anF ?_ _|refine aH ?_|refine aI ?_ _));refine anU ?_ lp.z _;(with_reducible repeat (first|refine anF ?_ _|refine aH ?_|refine aI ?_ _));refine anU ?_ lp.z _;exact bk) hb);replace anN:=k0 (cB (g:=cj) (o:=sO t130 d_ t131 dQ 31) (by (with_reducible repeat (first|refine anF ?_ _|refine aH ?_|refine aI ?_ _));refine anV (cs:=#[.int .i64 t130,.slice none 0 0]) ?_ 1 _ rfl;(with_reducible repeat (first|refine anF ?_ _|refine aH ?_|refine aI ?_ _));refine anV (cs:=#[.int .i64 0,.slice none 0 0]) ?_ 0 _ rfl;exact bk) hb);replace HB:=k0 (anH bl hb);have JE:=aX anN;have JF:=aY anN;have JT:=bF anN 0;have JU:=bF anN 1)|(go_at_call 50;(with_reducible refine (mH.calls iV t130 _ _ t131 t139 t142 _ ?aA ?anD GO.z).mono ?_);(case aA=>exact aC ((Kd.cN fJ.z).2.2));(case anD=>exact (Kd.cN fJ.z).2.1);rintro e LY ⟨LN,rfl,aq,hb⟩;have av:=k0 (Kd.cQ (aR aE.z) (Kd.aU aq) hb);have ax:=k0 (Kd.cQ (aR fK.z) (Kd.aU aq) hb);have ay:=k0 (Kd.b8 (aV anL.z) (Kd.aU aq) hb);have anC:=k0 (Kd.b8 (aV bw.z) (Kd.aU aq) hb);have aD:=k0 (Kd.b8 (aV fJ.z) (Kd.aU aq) hb);have anE:=k0 (Kd.cQ (aR jH.z) (Kd.aU aq) hb);have anP:=k0 (Kd.cH (Kd.cR (Kd.cR (Kd.cR aq (Kd.bK (aR aE.z))) (Kd.bK (aR fK.z))) (Kd.bK (aR jH.z))) (anG bl));have bL:=kB aJ hb;have b6:=kB aZ hb;have cM:=kB anN hb;have fe:=k0 (anH bl hb);clear aE;clear fK;clear anL;clear bw;clear fJ;clear jH;clear aJ;clear aZ;clear anN;clear HB;have aE:=av;have fK:=ax;have anL:=ay;have bw:=anC;have fJ:=aD;have jH:=anE;have pX:=anP;have aJ:=bL;have aZ:=b6;have anN:=cM;have HB:=fe;clear av ax ay anC aD anE anP bL b6 cM fe;)))
        (try simp only [Act.put,zI,zZ,zS])
        go_cut [94] (fun v94 wc=>∃ (kq:Nat) (GC:Bool),v94=.bool GC∧ak (anR.j2 kq t107 t110 t121 t124 t135 t138 GC t102 t103 t116 t117 t130 t131=some r)∧ak (kq≤iV)∧ak (Kd.R (Kd.int .i64) 2 wc w.heap.size (fun k_=>some k_ ≠ (lJ:Value).ownBlock∧some k_ ≠ (aov:Value).ownBlock) cw t107)∧ak (Kd.R (Kd.int .i64) 2 wc w.heap.size (fun k_=>some k_ ≠ (cw:Value).ownBlock∧some k_ ≠ (aov:Value).ownBlock) lJ t121)∧ak (Kd.R (Kd.int .i64) 2 wc w.heap.size (fun k_=>some k_ ≠ (cw:Value).ownBlock∧some k_ ≠ (lJ:Value).ownBlock) aov t135)∧ak (Kd.V (Kd.slice 2 (Kd.int .i64)) 28 wc w.heap.size (fun k_=>some k_ ≠ (cw:Value).ownBlock∧some k_ ≠ (lJ:Value).ownBlock∧some k_ ≠ (aov:Value).ownBlock∧k_ ≠ bW∧k_ ≠ cr∧k_ ≠ cj) (.slice eG t103.length dZ) t103)∧ak (Kd.V (Kd.slice 2 (Kd.int .i64)) 28 wc w.heap.size (fun k_=>some k_ ≠ (cw:Value).ownBlock∧some k_ ≠ (lJ:Value).ownBlock∧some k_ ≠ (aov:Value).ownBlock∧k_ ≠ bW∧k_ ≠ cr∧k_ ≠ cj) (.slice an2 t117.length dA) t117)∧ak (Kd.V (Kd.slice 2 (Kd.int .i64)) 28 wc w.heap.size (fun k_=>some k_ ≠ (cw:Value).ownBlock∧some k_ ≠ (lJ:Value).ownBlock∧some k_ ≠ (aov:Value).ownBlock∧k_ ≠ bW∧k_ ≠ cr∧k_ ≠ cj) (.slice d_ t131.length dQ) t131)∧ak (wc.heap[bW]?=some (sO t102 eG t103 dZ 31))∧ak (wc.heap[cr]?=some (sO t116 an2 t117 dA 31))∧ak (wc.heap[cj]?=some (sO t130 d_ t131 dQ 31))∧ak (Below w.heap.size w wc))
        case first =>
         have H:=G6.z
         clear G6
         by_cases c50:t138=t142
         case neg =>
          rw [if_neg c50] at H
          have xH:(t138 == t142)=false:=beq_eq_false_iff_ne.mpr c50
          have X1:(t138 != t142)=true:=bne_iff_ne.mpr c50
          (first|rw [xH]|(simp only [dX,eZ];rw [xH])|skip)
          have H':=k0 H
          clear H
          go_wp2
          repeat (go_quiet (fail);try go_wp2)
          go_meet
          case rel=>exact ⟨_,(true),rs,H',⟨by have:=lQ.out;have:=mJ.out;first|omega|exact Nat.le_refl _⟩,⟨aR (Kd.aT aE.z (fun _ hk=>⟨hk.1.1,hk.1.2⟩))⟩,⟨aR (Kd.aT fK.z (fun _ hk=>⟨hk.1.1,hk.1.2⟩))⟩,⟨aR (Kd.aT jH.z (fun _ hk=>⟨hk.1.1.2,hk.1.2⟩))⟩,⟨aV (Kd.anJ anL.z (fun _ hk=>⟨hk.1.1.1.1,⟨hk.1.1.1.2.1,⟨hk.1.2,⟨hk.1.1.1.2.2.1,⟨hk.1.1.1.2.2.2,hk.1.1.2⟩⟩⟩⟩⟩))⟩,⟨aV (Kd.anJ bw.z (fun _ hk=>⟨hk.1.1.1.1,⟨hk.1.1.1.2.1,⟨hk.1.2,⟨hk.1.1.1.2.2.1,⟨hk.1.1.1.2.2.2,hk.1.1.2⟩⟩⟩⟩⟩))⟩,⟨aV (Kd.anJ fJ.z (fun _ hk=>⟨hk.1.1.1.1,⟨hk.1.1.1.2.1,⟨hk.1.2,⟨hk.1.1.1.2.2.1,⟨hk.1.1.1.2.2.2,hk.1.1.2⟩⟩⟩⟩⟩))⟩,⟨bk⟩,⟨bk⟩,⟨bk⟩,⟨bl⟩⟩
         rw [if_pos c50] at H
         have xH:(t138 == t142)=true:=beq_iff_eq.mpr c50
         have X1:(t138 != t142)=false:=bne_eq_false_iff_eq.mpr c50
         clear c50
         (first|rw [xH]|(simp only [dX,eZ];rw [xH])|skip)
         replace H:=Option.bind_eq_some_iff.mp H
         obtain ⟨t143,Ms,H⟩:=H
         replace H:(anR.j2 iV t107 t110 t121 t124 t135 t138 (!t143) t102 t103 t116 t117 t130 t131)=some r:=H
         have GP:=k0 Ms
         clear Ms
         have H':=k0 H
         clear H
         obtain ⟨afZ,ahL,Zy⟩:=Kd.cK jH.z
         subst Zy
         obtain ⟨af0,ahM,Zz⟩:=Kd.cK pX.z
         subst Zz
         go_wp2_with (first|(go_at_call 44;(with_reducible refine (ef.calls iV _ _ t135 _ _ t139 t143 _ ?aA ?anD ?cP ?dB GP.z).mono ?_);(case aA=>exact aC ((Kd.anT jH.z).2.2));(case anD=>exact (Kd.anT jH.z).2.1);(case cP=>exact aC ((Kd.anT pX.z).2.2));(case dB=>exact (Kd.anT pX.z).2.1);rintro e w' ⟨rfl,⟨nd,rfl⟩⟩;(try exact dN)))
         repeat (go_quiet (first|(go_at_call 44;(with_reducible refine (ef.calls iV _ _ t135 _ _ t139 t143 _ ?aA ?anD ?cP ?dB GP.z).mono ?_);(case aA=>exact aC ((Kd.anT jH.z).2.2));(case anD=>exact (Kd.anT jH.z).2.1);(case cP=>exact aC ((Kd.anT pX.z).2.2));(case dB=>exact (Kd.anT pX.z).2.1);rintro e w' ⟨rfl,⟨nd,rfl⟩⟩;(try exact dN)));try go_wp2_with (first|(go_at_call 44;(with_reducible refine (ef.calls iV _ _ t135 _ _ t139 t143 _ ?aA ?anD ?cP ?dB GP.z).mono ?_);(case aA=>exact aC ((Kd.anT jH.z).2.2));(case anD=>exact (Kd.anT jH.z).2.1);(case cP=>exact aC ((Kd.anT pX.z).2.2));(case dB=>exact (Kd.anT pX.z).2.1);rintro e w' ⟨rfl,⟨nd,rfl⟩⟩;(try exact dN))))
         go_meet
         case rel=>exact ⟨_,(!t143),rs,H',⟨by have:=lQ.out;have:=mJ.out;first|omega|exact Nat.le_refl _⟩,⟨aR (Kd.aT aE.z (fun _ hk=>⟨hk.1.1,hk.1.2⟩))⟩,⟨aR (Kd.aT fK.z (fun _ hk=>⟨hk.1.1,hk.1.2⟩))⟩,⟨aR (Kd.aT jH.z (fun _ hk=>⟨hk.1.1.2,hk.1.2⟩))⟩,⟨aV (Kd.anJ anL.z (fun _ hk=>⟨hk.1.1.1.1,⟨hk.1.1.1.2.1,⟨hk.1.2,⟨hk.1.1.1.2.2.1,⟨hk.1.1.1.2.2.2,hk.1.1.2⟩⟩⟩⟩⟩))⟩,⟨aV (Kd.anJ bw.z (fun _ hk=>⟨hk.1.1.1.1,⟨hk.1.1.1.2.1,⟨hk.1.2,⟨hk.1.1.1.2.2.1,⟨hk.1.1.1.2.2.2,hk.1.1.2⟩⟩⟩⟩⟩))⟩,⟨aV (Kd.anJ fJ.z (fun _ hk=>⟨hk.1.1.1.1,⟨hk.1.1.1.2.1,⟨hk.1.2,⟨hk.1.1.1.2.2.1,⟨hk.1.1.1.2.2.2,hk.1.1.2⟩⟩⟩⟩⟩))⟩,⟨bk⟩,⟨bk⟩,⟨bk⟩,⟨bl⟩⟩
        case rest=>as_aux_lemma =>
         clear G6
         obtain ⟨kq,GC,rfl,HA,nM,aE,fK,an5,anL,bw,bM,aJ,aZ,anN,HB⟩:=hcut
         cases kq with
         | zero=>exact absurd HA.z (by simp [anR.j2])
         | succ KI =>
          have H:=HA.z
          clear HA
          simp only [anR.j2] at H
          by_cases c54:GC=true
          case neg =>
           replace c54:=Bool.eq_false_iff.mpr c54
           subst c54
           have H1:(if t124=0 then (anR.j3 KI t107 t110 t135 t138 ((t121.length:Int) != (wrap64 ((wrap64 (Int.tdiv (wrap64 (t116 * (wrap64 (t116+1)))) 2))+1))) t102 t103 t130 t131) else (anR.j3 KI t107 t110 t135 t138 false t102 t103 t130 t131))=some r:=by rw [if_neg (show ¬ (false=true) by decide)] at H;exact H
           clear H
           have H:=H1
           clear H1
           have G8:=k0 H
           clear H
           go_upto_region 18 with (fail)
           repeat (go_quiet (fail);go_upto_region 18 with (fail))
           go_cut [109] (fun v109 wc=>∃ (kq:Nat) (Gv:Bool),v109=.bool Gv∧ak (anR.j3 kq t107 t110 t135 t138 Gv t102 t103 t130 t131=some r)∧ak (kq≤KI)∧ak (Kd.R (Kd.int .i64) 2 wc w.heap.size (fun k_=>some k_ ≠ (aov:Value).ownBlock) cw t107)∧ak (Kd.R (Kd.int .i64) 2 wc w.heap.size (fun k_=>some k_ ≠ (cw:Value).ownBlock) aov t135)∧ak (Kd.V (Kd.slice 2 (Kd.int .i64)) 28 wc w.heap.size (fun k_=>some k_ ≠ (cw:Value).ownBlock∧some k_ ≠ (aov:Value).ownBlock∧k_ ≠ bW∧k_ ≠ cr∧k_ ≠ cj) (.slice eG t103.length dZ) t103)∧ak (Kd.V (Kd.slice 2 (Kd.int .i64)) 28 wc w.heap.size (fun k_=>some k_ ≠ (cw:Value).ownBlock∧some k_ ≠ (aov:Value).ownBlock∧k_ ≠ bW∧k_ ≠ cr∧k_ ≠ cj) (.slice an2 t117.length dA) t117)∧ak (Kd.V (Kd.slice 2 (Kd.int .i64)) 28 wc w.heap.size (fun k_=>some k_ ≠ (cw:Value).ownBlock∧some k_ ≠ (aov:Value).ownBlock∧k_ ≠ bW∧k_ ≠ cr∧k_ ≠ cj) (.slice d_ t131.length dQ) t131)∧ak (wc.heap[bW]?=some (sO t102 eG t103 dZ 31))∧ak (wc.heap[cr]?=some (sO t116 an2 t117 dA 31))∧ak (wc.heap[cj]?=some (sO t130 d_ t131 dQ 31))∧ak (Below w.heap.size w wc))
           case first =>
            have H:=G8.z
            clear G8
            by_cases c56:t124=0
            case neg =>
             rw [if_neg c56] at H
             have B_:(t124 == 0)=false:=beq_eq_false_iff_ne.mpr c56
             have X3:(t124 != 0)=true:=bne_iff_ne.mpr c56
             (first|rw [B_]|(simp only [dX,eZ];rw [B_])|skip)
             have H':=k0 H
             clear H
             go_wp2
             repeat (go_quiet (fail);try go_wp2)
             go_meet
             case rel=>exact ⟨_,(false),rs,H',⟨by have:=lQ.out;have:=mJ.out;have:=nM.out;first|omega|exact Nat.le_refl _⟩,⟨aR (Kd.aT aE.z (fun _ hk=>hk.2))⟩,⟨aR (Kd.aT an5.z (fun _ hk=>hk.1))⟩,⟨aV (Kd.anJ anL.z (fun _ hk=>⟨hk.1,⟨hk.2.2.1,⟨hk.2.2.2.1,⟨hk.2.2.2.2.1,hk.2.2.2.2.2⟩⟩⟩⟩))⟩,⟨aV (Kd.anJ bw.z (fun _ hk=>⟨hk.1,⟨hk.2.2.1,⟨hk.2.2.2.1,⟨hk.2.2.2.2.1,hk.2.2.2.2.2⟩⟩⟩⟩))⟩,⟨aV (Kd.anJ bM.z (fun _ hk=>⟨hk.1,⟨hk.2.2.1,⟨hk.2.2.2.1,⟨hk.2.2.2.2.1,hk.2.2.2.2.2⟩⟩⟩⟩))⟩,⟨bk⟩,⟨bk⟩,⟨bk⟩,⟨bl⟩⟩
            rw [if_pos c56] at H
            have B_:(t124 == 0)=true:=beq_iff_eq.mpr c56
            have X3:(t124 != 0)=false:=bne_eq_false_iff_eq.mpr c56
            clear c56
            (first|rw [B_]|(simp only [dX,eZ];rw [B_])|skip)
            have H':=k0 H
            clear H
            obtain ⟨af1,ahN,ZA⟩:=Kd.cK fK.z
            subst ZA
            have alr:=rU.z
            have aml:=l7.z
            have als:=lp.z
            have amm:=oy.z
            have aaZ:=aX aZ
            have aa0:=aY aZ
            have abC:=bF aZ 0
            have abD:=bF aZ 1
            go_wp2
            repeat (go_quiet (fail);try go_wp2)
            go_meet
            case rel=>exact ⟨_,(((t121.length:Int) != (wrap64 ((wrap64 (Int.tdiv (wrap64 (t116 * (wrap64 (t116+1)))) 2))+1)))),rs,H',⟨by have:=lQ.out;have:=mJ.out;have:=nM.out;first|omega|exact Nat.le_refl _⟩,⟨aR (Kd.aT aE.z (fun _ hk=>hk.2))⟩,⟨aR (Kd.aT an5.z (fun _ hk=>hk.1))⟩,⟨aV (Kd.anJ anL.z (fun _ hk=>⟨hk.1,⟨hk.2.2.1,⟨hk.2.2.2.1,⟨hk.2.2.2.2.1,hk.2.2.2.2.2⟩⟩⟩⟩))⟩,⟨aV (Kd.anJ bw.z (fun _ hk=>⟨hk.1,⟨hk.2.2.1,⟨hk.2.2.2.1,⟨hk.2.2.2.2.1,hk.2.2.2.2.2⟩⟩⟩⟩))⟩,⟨aV (Kd.anJ bM.z (fun _ hk=>⟨hk.1,⟨hk.2.2.1,⟨hk.2.2.2.1,⟨hk.2.2.2.2.1,hk.2.2.2.2.2⟩⟩⟩⟩))⟩,⟨bk⟩,⟨bk⟩,⟨bk⟩,⟨bl⟩⟩
           case rest=>as_aux_lemma =>
            clear G8
            obtain ⟨kq,Gv,rfl,HA,oU,aE,an5,anL,bw,bM,aJ,aZ,anN,HB⟩:=hcut
            cases kq with
            | zero=>exact absurd HA.z (by simp [anR.j3])
            | succ DE =>
             have H:=HA.z
             clear HA
             simp only [anR.j3] at H
             by_cases c61:Gv=true
             case neg =>
              replace c61:=Bool.eq_false_iff.mpr c61
              subst c61
              have H1:(if t138=0 then (anR.l0 DE t107 t110 t135 0 0 t102 t103 t130 t131) else (anR.j5 DE t107 t110 t102 t103))=some r:=by rw [if_neg (show ¬ (false=true) by decide)] at H;exact H
              clear H
              have H:=H1
              clear H1
              have G9:=k0 H
              clear H
              go_upto_if 111 with (fail)
              repeat (go_quiet (fail);go_upto_if 111 with (fail))
              go_cut [] (fun wc=>∃ (kq:Nat),ak (anR.j5 kq t107 t110 t102 t103=some r)∧ak (kq≤DE)∧ak (Kd.R (Kd.int .i64) 2 wc w.heap.size (fun _=>True) cw t107)∧ak (Kd.V (Kd.slice 2 (Kd.int .i64)) 28 wc w.heap.size (fun k_=>some k_ ≠ (cw:Value).ownBlock∧k_ ≠ bW∧k_ ≠ cr∧k_ ≠ cj) (.slice eG t103.length dZ) t103)∧ak (Kd.V (Kd.slice 2 (Kd.int .i64)) 28 wc w.heap.size (fun k_=>some k_ ≠ (cw:Value).ownBlock∧k_ ≠ bW∧k_ ≠ cr∧k_ ≠ cj) (.slice an2 t117.length dA) t117)∧ak (Kd.V (Kd.slice 2 (Kd.int .i64)) 28 wc w.heap.size (fun k_=>some k_ ≠ (cw:Value).ownBlock∧k_ ≠ bW∧k_ ≠ cr∧k_ ≠ cj) (.slice d_ t131.length dQ) t131)∧ak (wc.heap[bW]?=some (sO t102 eG t103 dZ 31))∧ak (wc.heap[cr]?=some (sO t116 an2 t117 dA 31))∧ak (wc.heap[cj]?=some (sO t130 d_ t131 dQ 31))∧ak (Below w.heap.size w wc))
              case first =>
               have H:=G9.z
               clear G9
               by_cases c63:t138=0
               case neg =>
                rw [if_neg c63] at H
                have Ak:(t138 == 0)=false:=beq_eq_false_iff_ne.mpr c63
                have Oy:(t138 != 0)=true:=bne_iff_ne.mpr c63
                (first|rw [Ak]|(simp only [dX,eZ];rw [Ak])|skip)
                have H':=k0 H
                clear H
                go_wp2
                repeat (go_quiet (fail);try go_wp2)
                go_meet
                case rel=>exact ⟨_,H',⟨by have:=lQ.out;have:=mJ.out;have:=nM.out;have:=oU.out;first|omega|exact Nat.le_refl _⟩,⟨aR (Kd.aT aE.z (fun _ hk=>trivial))⟩,⟨aV (Kd.anJ anL.z (fun _ hk=>⟨hk.1,⟨hk.2.2.1,⟨hk.2.2.2.1,hk.2.2.2.2⟩⟩⟩))⟩,⟨aV (Kd.anJ bw.z (fun _ hk=>⟨hk.1,⟨hk.2.2.1,⟨hk.2.2.2.1,hk.2.2.2.2⟩⟩⟩))⟩,⟨aV (Kd.anJ bM.z (fun _ hk=>⟨hk.1,⟨hk.2.2.1,⟨hk.2.2.2.1,hk.2.2.2.2⟩⟩⟩))⟩,⟨bk⟩,⟨bk⟩,⟨bk⟩,⟨bl⟩⟩
               rw [if_pos c63] at H
               have Ak:(t138 == 0)=true:=beq_iff_eq.mpr c63
               have Oy:(t138 != 0)=false:=bne_eq_false_iff_eq.mpr c63
               clear c63
               (first|rw [Ak]|(simp only [dX,eZ];rw [Ak])|skip)
               have H':=k0 H
               clear H
               go_wp2
               repeat (go_quiet (fail);try go_wp2)
               go_loopg [18,19] DE (fun kq LO v19 w'=>∃ (pU:Int) (fH:Int),LO=.int .i64 pU∧v19=.int .i64 fH∧ak (anR.l0 kq t107 t110 t135 pU fH t102 t103 t130 t131=some r)∧ak (kq≤DE)∧ak (Kd.R (Kd.int .i64) 2 w' w.heap.size (fun k_=>some k_ ≠ (aov:Value).ownBlock) cw t107)∧ak (Kd.R (Kd.int .i64) 2 w' w.heap.size (fun k_=>some k_ ≠ (cw:Value).ownBlock) aov t135)∧ak (Kd.V (Kd.slice 2 (Kd.int .i64)) 28 w' w.heap.size (fun k_=>some k_ ≠ (cw:Value).ownBlock∧some k_ ≠ (aov:Value).ownBlock∧k_ ≠ bW∧k_ ≠ cr∧k_ ≠ cj) (.slice eG t103.length dZ) t103)∧ak (Kd.V (Kd.slice 2 (Kd.int .i64)) 28 w' w.heap.size (fun k_=>some k_ ≠ (cw:Value).ownBlock∧some k_ ≠ (aov:Value).ownBlock∧k_ ≠ bW∧k_ ≠ cr∧k_ ≠ cj) (.slice an2 t117.length dA) t117)∧ak (Kd.V (Kd.slice 2 (Kd.int .i64)) 28 w' w.heap.size (fun k_=>some k_ ≠ (cw:Value).ownBlock∧some k_ ≠ (aov:Value).ownBlock∧k_ ≠ bW∧k_ ≠ cr∧k_ ≠ cj) (.slice d_ t131.length dQ) t131)∧ak (w'.heap[bW]?=some (sO t102 eG t103 dZ 31))∧ak (w'.heap[cr]?=some (sO t116 an2 t117 dA 31))∧ak (w'.heap[cj]?=some (sO t130 d_ t131 dQ 31))∧ak (Below w.heap.size w w'))
               case atStart=>exact ⟨(0),(0),rs,rs,H',⟨Nat.le_refl _⟩,⟨aR (aE.z)⟩,⟨aR (an5.z)⟩,⟨aV (anL.z)⟩,⟨aV (bw.z)⟩,⟨aV (bM.z)⟩,⟨bk⟩,⟨bk⟩,⟨bk⟩,⟨bl⟩⟩
               case round=>as_aux_lemma =>
                clear H'
                obtain ⟨pU,fH,rfl,rfl,HA,ni,aE,an5,anL,bw,bM,aJ,aZ,anN,HB⟩:=hrel
                cases gk with
                | zero=>exact absurd HA.z (by simp [anR.l0])
                | succ k5 =>
                 have H:=HA.z
                 clear HA
                 simp only [anR.l0] at H
                 by_cases c64:fH < (t131.length:Int)
                 case neg =>
                  rw [if_neg c64] at H
                  have X7:decide (fH < (t131.length:Int))=false:=decide_eq_false c64
                  clear c64
                  by_cases c75:(t135.length:Int) > 1
                  case neg =>
                   rw [if_neg c75] at H
                   have Ya:decide (1 < (t135.length:Int))=false:=decide_eq_false c75
                   have Yb:decide (1 < t135.length)=false:=decide_eq_false (by omega)
                   clear c75
                   by_cases c97:(t135.length:Int)=0
                   case neg =>
                    rw [if_neg c97] at H
                    have Ym:((t135.length:Int) == 0)=false:=beq_eq_false_iff_ne.mpr c97
                    have Yn:((t135.length:Int) != 0)=true:=bne_iff_ne.mpr c97
                    have ag':¬ (t135=[]):=fun h_=>c97 (by rw [h_];rfl)
                    replace H:=iS H;obtain ⟨c102,H⟩:=H
                    have agH:=decide_eq_true c102
                    have agI:decide (0 < t135.length)=true:=decide_eq_true (by omega)
                    clear c102
                    by_cases c103:(rd t135 0)=1
                    case neg =>
                     rw [if_neg c103] at H
                     have Xw:((rd t135 0) == 1)=false:=beq_eq_false_iff_ne.mpr c103
                     have Xx:((rd t135 0) != 1)=true:=bne_iff_ne.mpr c103
                     obtain rfl:=Option.some.inj H
                     have abU:=l8.z
                     have ab7:=jW.z
                     have akZ:=oy.z
                     have alU:=lp.z
                     have aia:=aX anN
                     have aib:=aY anN
                     have ajC:=bF anN 0
                     have ajD:=bF anN 1
                     obtain ⟨afK,ahw,Zb⟩:=Kd.cK an5.z
                     subst Zb
                     have sR:0≤(0:Int):=(by omega)
                     have sW:0 < (t135.length:Int):=oD
                     obtain ⟨Oj,e150,wC⟩:=Kd.cm (Kd.anT an5.z).2.2 0 sR sW
                     cases e150
                     have Tf:(0 < t135.length)=True:=eq_true (by omega)
                     (try rw [show ((0:Int)).toNat=0 from rfl] at wC)
                     (try rw [Addr.add_zero'] at wC)
                     replace sR:=eq_true sR
                     replace sW:=eq_true sW
                     go_wp2
                     repeat (go_quiet (fail);try go_wp2)
                     go_ret
                     exact ⟨eR,bl⟩
                    rw [if_pos c103] at H
                    have Xw:((rd t135 0) == 1)=true:=beq_iff_eq.mpr c103
                    have Xx:((rd t135 0) != 1)=false:=bne_eq_false_iff_eq.mpr c103
                    clear c103
                    by_cases c104:0=(wrap64 (2 * pU))
                    case neg =>
                     rw [if_neg c104] at H
                     have Xy:(0 == (wrap64 (2 * pU)))=false:=beq_eq_false_iff_ne.mpr c104
                     have Xz:(0 != (wrap64 (2 * pU)))=true:=bne_iff_ne.mpr c104
                     obtain rfl:=Option.some.inj H
                     have akX:=l8.z
                     have alS:=jW.z
                     have abT:=oy.z
                     have ab6:=lp.z
                     have ah6:=aX anN
                     have ah7:=aY anN
                     have ajw:=bF anN 0
                     have ajx:=bF anN 1
                     obtain ⟨afJ,ahv,Za⟩:=Kd.cK an5.z
                     subst Za
                     have sR:0≤(0:Int):=(by omega)
                     have sW:0 < (t135.length:Int):=oD
                     obtain ⟨Oj,e150,wC⟩:=Kd.cm (Kd.anT an5.z).2.2 0 sR sW
                     cases e150
                     have Tf:(0 < t135.length)=True:=eq_true (by omega)
                     (try rw [show ((0:Int)).toNat=0 from rfl] at wC)
                     (try rw [Addr.add_zero'] at wC)
                     replace sR:=eq_true sR
                     replace sW:=eq_true sW
                     go_wp2
                     repeat (go_quiet (fail);try go_wp2)
                     go_ret
                     exact ⟨eR,bl⟩
                    rw [if_pos c104] at H
                    have Xy:(0 == (wrap64 (2 * pU)))=true:=beq_iff_eq.mpr c104
                    have Xz:(0 != (wrap64 (2 * pU)))=false:=bne_eq_false_iff_eq.mpr c104
                    clear c104
                    have H':=k0 H
                    clear H
                    have Ro:=l8.z
                    have RI:=jW.z
                    have akW:=oy.z
                    have alR:=lp.z
                    have ah4:=aX anN
                    have ah5:=aY anN
                    have aju:=bF anN 0
                    have ajv:=bF anN 1
                    obtain ⟨afI,ahu,Y_⟩:=Kd.cK an5.z
                    subst Y_
                    have sR:0≤(0:Int):=(by omega)
                    have sW:0 < (t135.length:Int):=oD
                    obtain ⟨Oj,e150,wC⟩:=Kd.cm (Kd.anT an5.z).2.2 0 sR sW
                    cases e150
                    have Tf:(0 < t135.length)=True:=eq_true (by omega)
                    (try rw [show ((0:Int)).toNat=0 from rfl] at wC)
                    (try rw [Addr.add_zero'] at wC)
                    replace sR:=eq_true sR
                    replace sW:=eq_true sW
                    go_wp2
                    repeat (go_quiet (fail);try go_wp2)
                    go_meet
                    case rel=>exact ⟨_,H',⟨by have:=lQ.out;have:=mJ.out;have:=nM.out;have:=oU.out;have:=ni.z;first|omega|exact Nat.le_refl _⟩,⟨aR (Kd.aT aE.z (fun _ hk=>trivial))⟩,⟨aV (Kd.anJ anL.z (fun _ hk=>⟨hk.1,⟨hk.2.2.1,⟨hk.2.2.2.1,hk.2.2.2.2⟩⟩⟩))⟩,⟨aV (Kd.anJ bw.z (fun _ hk=>⟨hk.1,⟨hk.2.2.1,⟨hk.2.2.2.1,hk.2.2.2.2⟩⟩⟩))⟩,⟨aV (Kd.anJ bM.z (fun _ hk=>⟨hk.1,⟨hk.2.2.1,⟨hk.2.2.2.1,hk.2.2.2.2⟩⟩⟩))⟩,⟨bk⟩,⟨bk⟩,⟨bk⟩,⟨bl⟩⟩
                   rw [if_pos c97] at H
                   have Ym:((t135.length:Int) == 0)=true:=beq_iff_eq.mpr c97
                   have Yn:((t135.length:Int) != 0)=false:=bne_eq_false_iff_eq.mpr c97
                   clear c97
                   obtain rfl:=Option.some.inj H
                   have alM:=l8.z
                   have amG:=jW.z
                   have alN:=oy.z
                   have amH:=lp.z
                   have aaD:=aX anN
                   have aaE:=aY anN
                   have abf:=bF anN 0
                   have abg:=bF anN 1
                   obtain ⟨afH,aht,Y7⟩:=Kd.cK an5.z
                   subst Y7
                   go_wp2
                   repeat (go_quiet (fail);try go_wp2)
                   go_ret
                   exact ⟨eR,bl⟩
                  rw [if_pos c75] at H
                  have Ya:=decide_eq_true c75
                  have Yb:decide (1 < t135.length)=true:=decide_eq_true (by omega)
                  clear c75
                  replace H:=iS H;obtain ⟨c76,H⟩:=H
                  have ag5:=decide_eq_true c76
                  have ag6:decide (1 < t135.length)=true:=decide_eq_true (by omega)
                  clear c76
                  by_cases c77:(t135.length:Int)=0
                  case neg =>
                   rw [if_neg c77] at H
                   have Yc:((t135.length:Int) == 0)=false:=beq_eq_false_iff_ne.mpr c77
                   have Yd:((t135.length:Int) != 0)=true:=bne_iff_ne.mpr c77
                   have ag7:¬ (t135=[]):=fun h_=>c77 (by rw [h_];rfl)
                   replace H:=iS H;obtain ⟨c82,H⟩:=H
                   have ag8:=decide_eq_true c82
                   have ag9:decide (0 < t135.length)=true:=decide_eq_true (by omega)
                   clear c82
                   by_cases c83:(rd t135 0)=1
                   case neg =>
                    rw [if_neg c83] at H
                    have Yg:((rd t135 0) == 1)=false:=beq_eq_false_iff_ne.mpr c83
                    have Yh:((rd t135 0) != 1)=true:=bne_iff_ne.mpr c83
                    obtain rfl:=Option.some.inj H
                    have ab2:=l8.z
                    have acg:=jW.z
                    have ab3:=oy.z
                    have ach:=lp.z
                    have aa7:=aX anN
                    have aa8:=aY anN
                    have abL:=bF anN 0
                    have abM:=bF anN 1
                    obtain ⟨af7,ahT,ZL⟩:=Kd.cK an5.z
                    subst ZL
                    have pN:0≤(1:Int):=(by omega)
                    have pP:1 < (t135.length:Int):=oD
                    obtain ⟨Ad,e148,sG⟩:=Kd.cm (Kd.anT an5.z).2.2 1 pN pP
                    cases e148
                    (try simp only [show (1:Int).toNat=1 from rfl,Nat.reduceMul,Nat.reduceEqDiff,Go.Addr.add,↓reduceIte] at sG)
                    have Lw:(1 < t135.length)=True:=eq_true (by omega)
                    (try rw [show ((1:Int)).toNat=1 from rfl] at sG)
                    replace pN:=eq_true pN
                    replace pP:=eq_true pP
                    have sQ:0≤(0:Int):=(by omega)
                    have sV:0 < (t135.length:Int):=oD
                    obtain ⟨BV,e149,wB⟩:=Kd.cm (Kd.anT an5.z).2.2 0 sQ sV
                    obtain rfl:Ad=BV:=(by injection e149)
                    have Te:(0 < t135.length)=True:=eq_true (by omega)
                    (try rw [show ((0:Int)).toNat=0 from rfl] at wB)
                    (try rw [Addr.add_zero'] at wB)
                    replace sQ:=eq_true sQ
                    replace sV:=eq_true sV
                    go_wp2
                    repeat (go_quiet (fail);try go_wp2)
                    go_ret
                    exact ⟨eR,bl⟩
                   rw [if_pos c83] at H
                   have Yg:((rd t135 0) == 1)=true:=beq_iff_eq.mpr c83
                   have Yh:((rd t135 0) != 1)=false:=bne_eq_false_iff_eq.mpr c83
                   clear c83
                   by_cases c84:(wrap64 (-(rd t135 1)))=(wrap64 (2 * pU))
                   case neg =>
                    rw [if_neg c84] at H
                    have Yi:((wrap64 (-(rd t135 1))) == (wrap64 (2 * pU)))=false:=beq_eq_false_iff_ne.mpr c84
                    have Yj:((wrap64 (-(rd t135 1))) != (wrap64 (2 * pU)))=true:=bne_iff_ne.mpr c84
                    obtain rfl:=Option.some.inj H
                    have alI:=l8.z
                    have amC:=jW.z
                    have alJ:=oy.z
                    have amD:=lp.z
                    have aje:=aX anN
                    have ajf:=aY anN
                    have akF:=bF anN 0
                    have akG:=bF anN 1
                    obtain ⟨af6,ahS,ZJ⟩:=Kd.cK an5.z
                    subst ZJ
                    have pN:0≤(1:Int):=(by omega)
                    have pP:1 < (t135.length:Int):=oD
                    obtain ⟨Ad,e148,sG⟩:=Kd.cm (Kd.anT an5.z).2.2 1 pN pP
                    cases e148
                    (try simp only [show (1:Int).toNat=1 from rfl,Nat.reduceMul,Nat.reduceEqDiff,Go.Addr.add,↓reduceIte] at sG)
                    have Lw:(1 < t135.length)=True:=eq_true (by omega)
                    (try rw [show ((1:Int)).toNat=1 from rfl] at sG)
                    replace pN:=eq_true pN
                    replace pP:=eq_true pP
                    have sQ:0≤(0:Int):=(by omega)
                    have sV:0 < (t135.length:Int):=oD
                    obtain ⟨BV,e149,wB⟩:=Kd.cm (Kd.anT an5.z).2.2 0 sQ sV
                    obtain rfl:Ad=BV:=(by injection e149)
                    have Te:(0 < t135.length)=True:=eq_true (by omega)
                    (try rw [show ((0:Int)).toNat=0 from rfl] at wB)
                    (try rw [Addr.add_zero'] at wB)
                    replace sQ:=eq_true sQ
                    replace sV:=eq_true sV
                    go_wp2
                    repeat (go_quiet (fail);try go_wp2)
                    go_ret
                    exact ⟨eR,bl⟩
                   rw [if_pos c84] at H
                   have Yi:((wrap64 (-(rd t135 1))) == (wrap64 (2 * pU)))=true:=beq_iff_eq.mpr c84
                   have Yj:((wrap64 (-(rd t135 1))) != (wrap64 (2 * pU)))=false:=bne_eq_false_iff_eq.mpr c84
                   clear c84
                   have H':=k0 H
                   clear H
                   have alG:=l8.z
                   have amA:=jW.z
                   have alH:=oy.z
                   have amB:=lp.z
                   have aa5:=aX anN
                   have aa6:=aY anN
                   have abJ:=bF anN 0
                   have abK:=bF anN 1
                   obtain ⟨zD,At,Ct⟩:=Kd.cK an5.z
                   subst Ct
                   have pN:0≤(1:Int):=(by omega)
                   have pP:1 < (t135.length:Int):=oD
                   obtain ⟨Ad,e148,sG⟩:=Kd.cm (Kd.anT an5.z).2.2 1 pN pP
                   cases e148
                   (try simp only [show (1:Int).toNat=1 from rfl,Nat.reduceMul,Nat.reduceEqDiff,Go.Addr.add,↓reduceIte] at sG)
                   have Lw:(1 < t135.length)=True:=eq_true (by omega)
                   (try rw [show ((1:Int)).toNat=1 from rfl] at sG)
                   replace pN:=eq_true pN
                   replace pP:=eq_true pP
                   have sQ:0≤(0:Int):=(by omega)
                   have sV:0 < (t135.length:Int):=oD
                   obtain ⟨BV,e149,wB⟩:=Kd.cm (Kd.anT an5.z).2.2 0 sQ sV
                   obtain rfl:Ad=BV:=(by injection e149)
                   have Te:(0 < t135.length)=True:=eq_true (by omega)
                   (try rw [show ((0:Int)).toNat=0 from rfl] at wB)
                   (try rw [Addr.add_zero'] at wB)
                   replace sQ:=eq_true sQ
                   replace sV:=eq_true sV
                   go_wp2
                   repeat (go_quiet (fail);try go_wp2)
                   go_meet
                   case rel=>exact ⟨_,H',⟨by have:=lQ.out;have:=mJ.out;have:=nM.out;have:=oU.out;have:=ni.z;first|omega|exact Nat.le_refl _⟩,⟨aR (Kd.aT aE.z (fun _ hk=>trivial))⟩,⟨aV (Kd.anJ anL.z (fun _ hk=>⟨hk.1,⟨hk.2.2.1,⟨hk.2.2.2.1,hk.2.2.2.2⟩⟩⟩))⟩,⟨aV (Kd.anJ bw.z (fun _ hk=>⟨hk.1,⟨hk.2.2.1,⟨hk.2.2.2.1,hk.2.2.2.2⟩⟩⟩))⟩,⟨aV (Kd.anJ bM.z (fun _ hk=>⟨hk.1,⟨hk.2.2.1,⟨hk.2.2.2.1,hk.2.2.2.2⟩⟩⟩))⟩,⟨bk⟩,⟨bk⟩,⟨bk⟩,⟨bl⟩⟩
                  rw [if_pos c77] at H
                  have Yc:((t135.length:Int) == 0)=true:=beq_iff_eq.mpr c77
                  have Yd:((t135.length:Int) != 0)=false:=bne_eq_false_iff_eq.mpr c77
                  clear c77
                  obtain rfl:=Option.some.inj H
                  have alA:=l8.z
                  have amu:=jW.z
                  have alB:=oy.z
                  have amv:=lp.z
                  have ai8:=aX anN
                  have ai9:=aY anN
                  have akx:=bF anN 0
                  have aky:=bF anN 1
                  obtain ⟨af5,ahR,ZH⟩:=Kd.cK an5.z
                  subst ZH
                  have pN:0≤(1:Int):=(by omega)
                  have pP:1 < (t135.length:Int):=oD
                  obtain ⟨Ad,e148,sG⟩:=Kd.cm (Kd.anT an5.z).2.2 1 pN pP
                  cases e148
                  (try simp only [show (1:Int).toNat=1 from rfl,Nat.reduceMul,Nat.reduceEqDiff,Go.Addr.add,↓reduceIte] at sG)
                  have Lw:(1 < t135.length)=True:=eq_true (by omega)
                  (try rw [show ((1:Int)).toNat=1 from rfl] at sG)
                  replace pN:=eq_true pN
                  replace pP:=eq_true pP
                  go_wp2
                  repeat (go_quiet (fail);try go_wp2)
                  go_ret
                  exact ⟨eR,bl⟩
                 rw [if_pos c64] at H
                 have X7:=decide_eq_true c64
                 clear c64
                 replace H:=iS H;obtain ⟨c65,H⟩:=H
                 have ag0:=decide_eq_true c65
                 clear c65
                 replace H:=iS H;obtain ⟨c66,H⟩:=H
                 have ag1:=decide_eq_true c66
                 have ag2:decide (0 < (ai t131 fH).length)=true:=decide_eq_true (by omega)
                 clear c66
                 replace H:=iS H;obtain ⟨c67,H⟩:=H
                 have ag3:=decide_eq_true c67
                 have ag4:decide (1 < (ai t131 fH).length)=true:=decide_eq_true (by omega)
                 clear c67
                 by_cases c68:(rd (ai t131 fH) 0)=(rd (ai t131 fH) 1)
                 case neg =>
                  rw [if_neg c68] at H
                  have X8:((rd (ai t131 fH) 0) == (rd (ai t131 fH) 1))=false:=beq_eq_false_iff_ne.mpr c68
                  have X9:((rd (ai t131 fH) 0) != (rd (ai t131 fH) 1))=true:=bne_iff_ne.mpr c68
                  have H':=k0 H
                  clear H
                  have alx:=l8.z
                  have amr:=jW.z
                  have aly:=oy.z
                  have ams:=lp.z
                  have aa3:=aX anN
                  have aa4:=aY anN
                  have abG:=bF anN 0
                  have abH:=bF anN 1
                  have uW:0≤(fH:Int):=oD
                  have uY:fH < (t131.length:Int):=oD
                  obtain ⟨Ij,Ui,XK,e144,Dx,Db,C5⟩:=fu (Kd.cN bM.z).2.2 fH uW uY
                  cases e144
                  obtain ⟨Yr,Jx,Jl,CH⟩:=Kd.EK bM.z [] fH uW (by first|exact uY|exact oD|(have e_:=(Kd.cN bM.z).1;omega))
                  obtain ⟨aff,afh,rfl,apq,xR⟩:=Kd.Em Jl
                  have uL:=CH 0 _ rfl
                  rw [Nat.add_zero,show ((Kd.slice 2 (Kd.int .i64))).sz=1 from rfl,Nat.mul_one] at uL
                  replace uL:=Option.some.inj (uL.symm.trans Dx)
                  injection uL with sC ye sD
                  rw [sC] at xR
                  rw [sD] at apq
                  have Vj:=k0 (show Kd.V (Kd.int .i64) 2 _ w.heap.size _ _ (ai t131 fH) from Kd.BR apq xR)
                  clear sC ye sD xR apq
                  clear CH Jx
                  have BD:=k0 C5
                  have Vd:=k0 Db
                  clear C5 Db
                  replace uW:=eq_true uW
                  replace uY:=eq_true uY
                  have yM:0≤(0:Int):=(by omega)
                  have yV:0 < ((ai t131 fH).length:Int):=oD
                  obtain ⟨Ik,e145,Dy⟩:=Kd.cm (by repeat (first|(with_reducible exact BD.z)|(with_reducible refine Kd.hJ ?_ _)|(with_reducible refine Kd.aoc ?_ _)|(with_reducible refine Kd.gO ?_)|exact BD.z)) 0 yM yV
                  cases e145
                  have aen:(0 < (ai t131 fH).length)=True:=eq_true (by omega)
                  (try rw [show ((0:Int)).toNat=0 from rfl] at Dy)
                  (try rw [Addr.add_zero'] at Dy)
                  replace yM:=eq_true yM
                  replace yV:=eq_true yV
                  have uX:0≤(fH:Int):=oD
                  have uZ:fH < (t131.length:Int):=oD
                  obtain ⟨Il,Uj,XL,e146,Dz,Dc,C6⟩:=fu (Kd.cN bM.z).2.2 fH uX uZ
                  obtain rfl:Ij=Il:=(by injection e146)
                  obtain ⟨Yt,Jy,Jm,CI⟩:=Kd.EK bM.z [] fH uX (by first|exact uZ|exact oD|(have e_:=(Kd.cN bM.z).1;omega))
                  obtain ⟨afg,afi,rfl,apr,xS⟩:=Kd.Em Jm
                  have uM:=CI 0 _ rfl
                  rw [Nat.add_zero,show ((Kd.slice 2 (Kd.int .i64))).sz=1 from rfl,Nat.mul_one] at uM
                  replace uM:=Option.some.inj (uM.symm.trans Dz)
                  injection uM with sC ye sD
                  rw [sC] at xS
                  rw [sD] at apr
                  have Vk:=k0 (show Kd.V (Kd.int .i64) 2 _ w.heap.size _ _ (ai t131 fH) from Kd.BR apr xS)
                  clear sC ye sD xS apr
                  clear CI Jy
                  have apH:=k0 C6
                  have Ve:=k0 Dc
                  clear C6 Dc
                  replace uX:=eq_true uX
                  replace uZ:=eq_true uZ
                  have dH:=Option.some.inj (Dx.symm.trans Dz)
                  injection dH with dH jB jA
                  subst dH
                  subst jA
                  clear jB
                  have yN:0≤(1:Int):=(by omega)
                  have yX:1 < ((ai t131 fH).length:Int):=oD
                  obtain ⟨Im,e147,DA⟩:=Kd.cm (by repeat (first|(with_reducible exact apH.z)|(with_reducible refine Kd.hJ ?_ _)|(with_reducible refine Kd.aoc ?_ _)|(with_reducible refine Kd.gO ?_)|exact apH.z)) 1 yN yX
                  obtain rfl:Ik=Im:=(by injection e147)
                  (try simp only [show (1:Int).toNat=1 from rfl,Nat.reduceMul,Nat.reduceEqDiff,Go.Addr.add,↓reduceIte] at DA)
                  have aeo:(1 < (ai t131 fH).length)=True:=eq_true (by omega)
                  (try rw [show ((1:Int)).toNat=1 from rfl] at DA)
                  replace yN:=eq_true yN
                  replace yX:=eq_true yX
                  go_wp2
                  repeat (go_quiet (fail);try go_wp2)
                  go_roundg k5
                  case measure=>have:=lQ.out;have:=mJ.out;have:=nM.out;have:=oU.out;have:=ni.z;omega
                  case rel=>exact ⟨(pU),(wrap64 (fH+1)),rs,rs,H',⟨by have:=lQ.out;have:=mJ.out;have:=nM.out;have:=oU.out;have:=ni.z;omega⟩,⟨aR (aE.z)⟩,⟨aR (an5.z)⟩,⟨aV (anL.z)⟩,⟨aV (bw.z)⟩,⟨aV (bM.z)⟩,⟨bk⟩,⟨bk⟩,⟨bk⟩,⟨bl⟩⟩
                 rw [if_pos c68] at H
                 have X8:((rd (ai t131 fH) 0) == (rd (ai t131 fH) 1))=true:=beq_iff_eq.mpr c68
                 have X9:((rd (ai t131 fH) 0) != (rd (ai t131 fH) 1))=false:=bne_eq_false_iff_eq.mpr c68
                 clear c68
                 have H':=k0 H
                 clear H
                 have abY:=l8.z
                 have ab_:=jW.z
                 have abZ:=oy.z
                 have acd:=lp.z
                 have aiZ:=aX anN
                 have ai0:=aY anN
                 have ako:=bF anN 0
                 have akp:=bF anN 1
                 have uW:0≤(fH:Int):=oD
                 have uY:fH < (t131.length:Int):=oD
                 obtain ⟨Ij,Ui,XK,e144,Dx,Db,C5⟩:=fu (Kd.cN bM.z).2.2 fH uW uY
                 cases e144
                 obtain ⟨Yr,Jx,Jl,CH⟩:=Kd.EK bM.z [] fH uW (by first|exact uY|exact oD|(have e_:=(Kd.cN bM.z).1;omega))
                 obtain ⟨aff,afh,rfl,apq,xR⟩:=Kd.Em Jl
                 have uL:=CH 0 _ rfl
                 rw [Nat.add_zero,show ((Kd.slice 2 (Kd.int .i64))).sz=1 from rfl,Nat.mul_one] at uL
                 replace uL:=Option.some.inj (uL.symm.trans Dx)
                 injection uL with sC ye sD
                 rw [sC] at xR
                 rw [sD] at apq
                 have Vj:=k0 (show Kd.V (Kd.int .i64) 2 _ w.heap.size _ _ (ai t131 fH) from Kd.BR apq xR)
                 clear sC ye sD xR apq
                 clear CH Jx
                 have BD:=k0 C5
                 have Vd:=k0 Db
                 clear C5 Db
                 replace uW:=eq_true uW
                 replace uY:=eq_true uY
                 have yM:0≤(0:Int):=(by omega)
                 have yV:0 < ((ai t131 fH).length:Int):=oD
                 obtain ⟨Ik,e145,Dy⟩:=Kd.cm (by repeat (first|(with_reducible exact BD.z)|(with_reducible refine Kd.hJ ?_ _)|(with_reducible refine Kd.aoc ?_ _)|(with_reducible refine Kd.gO ?_)|exact BD.z)) 0 yM yV
                 cases e145
                 have aen:(0 < (ai t131 fH).length)=True:=eq_true (by omega)
                 (try rw [show ((0:Int)).toNat=0 from rfl] at Dy)
                 (try rw [Addr.add_zero'] at Dy)
                 replace yM:=eq_true yM
                 replace yV:=eq_true yV
                 have uX:0≤(fH:Int):=oD
                 have uZ:fH < (t131.length:Int):=oD
                 obtain ⟨Il,Uj,XL,e146,Dz,Dc,C6⟩:=fu (Kd.cN bM.z).2.2 fH uX uZ
                 obtain rfl:Ij=Il:=(by injection e146)
                 obtain ⟨Yt,Jy,Jm,CI⟩:=Kd.EK bM.z [] fH uX (by first|exact uZ|exact oD|(have e_:=(Kd.cN bM.z).1;omega))
                 obtain ⟨afg,afi,rfl,apr,xS⟩:=Kd.Em Jm
                 have uM:=CI 0 _ rfl
                 rw [Nat.add_zero,show ((Kd.slice 2 (Kd.int .i64))).sz=1 from rfl,Nat.mul_one] at uM
                 replace uM:=Option.some.inj (uM.symm.trans Dz)
                 injection uM with sC ye sD
                 rw [sC] at xS
                 rw [sD] at apr
                 have Vk:=k0 (show Kd.V (Kd.int .i64) 2 _ w.heap.size _ _ (ai t131 fH) from Kd.BR apr xS)
                 clear sC ye sD xS apr
                 clear CI Jy
                 have apH:=k0 C6
                 have Ve:=k0 Dc
                 clear C6 Dc
                 replace uX:=eq_true uX
                 replace uZ:=eq_true uZ
                 have dH:=Option.some.inj (Dx.symm.trans Dz)
                 injection dH with dH jB jA
                 subst dH
                 subst jA
                 clear jB
                 have yN:0≤(1:Int):=(by omega)
                 have yX:1 < ((ai t131 fH).length:Int):=oD
                 obtain ⟨Im,e147,DA⟩:=Kd.cm (by repeat (first|(with_reducible exact apH.z)|(with_reducible refine Kd.hJ ?_ _)|(with_reducible refine Kd.aoc ?_ _)|(with_reducible refine Kd.gO ?_)|exact apH.z)) 1 yN yX
                 obtain rfl:Ik=Im:=(by injection e147)
                 (try simp only [show (1:Int).toNat=1 from rfl,Nat.reduceMul,Nat.reduceEqDiff,Go.Addr.add,↓reduceIte] at DA)
                 have aeo:(1 < (ai t131 fH).length)=True:=eq_true (by omega)
                 (try rw [show ((1:Int)).toNat=1 from rfl] at DA)
                 replace yN:=eq_true yN
                 replace yX:=eq_true yX
                 go_wp2
                 repeat (go_quiet (fail);try go_wp2)
                 go_roundg k5
                 case measure=>have:=lQ.out;have:=mJ.out;have:=nM.out;have:=oU.out;have:=ni.z;omega
                 case rel=>exact ⟨(wrap64 (pU+1)),(wrap64 (fH+1)),rs,rs,H',⟨by have:=lQ.out;have:=mJ.out;have:=nM.out;have:=oU.out;have:=ni.z;omega⟩,⟨aR (aE.z)⟩,⟨aR (an5.z)⟩,⟨aV (anL.z)⟩,⟨aV (bw.z)⟩,⟨aV (bM.z)⟩,⟨bk⟩,⟨bk⟩,⟨bk⟩,⟨bl⟩⟩
              case rest=>as_aux_lemma =>
               clear G9
               obtain ⟨kq,HA,vH,aE,anL,bw,bM,aJ,aZ,anN,HB⟩:=hcut
               cases kq with
               | zero=>exact absurd HA.z (by simp [anR.j5])
               | succ AO =>
                have H:=HA.z
                clear HA
                simp only [anR.j5] at H
                by_cases c117:t110=0
                case neg =>
                 rw [if_neg c117] at H
                 have XC:(t110 == 0)=false:=beq_eq_false_iff_ne.mpr c117
                 have XD:(t110 != 0)=true:=bne_iff_ne.mpr c117
                 obtain rfl:=Option.some.inj H
                 obtain ⟨afU,ahH,Zp⟩:=Kd.cK aE.z
                 subst Zp
                 go_wp2
                 repeat (go_quiet (fail);try go_wp2)
                 go_ret
                 exact ⟨eR,bl⟩
                rw [if_pos c117] at H
                have XC:(t110 == 0)=true:=beq_iff_eq.mpr c117
                have XD:(t110 != 0)=false:=bne_eq_false_iff_eq.mpr c117
                clear c117
                replace H:=Option.bind_eq_some_iff.mp H
                obtain ⟨⟨t151,t154⟩,L8,H⟩:=H
                replace H:(if t154=0 then (anR.j6 AO t107 t151 ((t151.length:Int) != (t107.length:Int)) t102 t103) else (anR.j6 AO t107 t151 true t102 t103))=some r:=H
                have GI:=k0 L8
                clear L8
                have G2:=k0 H
                clear H
                have ak1:=l7.z
                have alW:=rU.z
                have ak2:=jW.z
                have alX:=l8.z
                have aic:=aX aJ
                have aid:=aY aJ
                have ajE:=bF aJ 0
                have ajF:=bF aJ 1
                go_upto_region 35 with (first|(go_at_call 46;(with_reducible refine (lf.calls AO t102 _ _ t103 t151 t154 _ ?aA ?anD GI.z).mono ?_);(case aA=>exact aC ((Kd.cN anL.z).2.2));(case anD=>exact (Kd.cN anL.z).2.1);rintro e TH ⟨v152,rfl,aq,hb⟩;have av:=k0 (Kd.cQ (aR aE.z) (Kd.aU aq) hb);have ax:=k0 (Kd.b8 (aV anL.z) (Kd.aU aq) hb);have ay:=k0 (Kd.b8 (aV bw.z) (Kd.aU aq) hb);have anC:=k0 (Kd.b8 (aV bM.z) (Kd.aU aq) hb);have aD:=k0 (Kd.cH (Kd.cR aq (Kd.bK (aR aE.z))) (anG bl));have anE:=kB aJ hb;have anP:=kB aZ hb;have bL:=kB anN hb;have b6:=k0 (anH bl hb);clear aE;clear anL;clear bw;clear bM;clear aJ;clear aZ;clear anN;clear HB;have aE:=av;have anL:=ax;have bw:=ay;have bM:=anC;have tj:=aD;have aJ:=anE;have aZ:=anP;have anN:=bL;have HB:=b6;clear av ax ay anC aD anE anP bL b6;))
                repeat (go_quiet (first|(go_at_call 46;(with_reducible refine (lf.calls AO t102 _ _ t103 t151 t154 _ ?aA ?anD GI.z).mono ?_);(case aA=>exact aC ((Kd.cN anL.z).2.2));(case anD=>exact (Kd.cN anL.z).2.1);rintro e TH ⟨v152,rfl,aq,hb⟩;have av:=k0 (Kd.cQ (aR aE.z) (Kd.aU aq) hb);have ax:=k0 (Kd.b8 (aV anL.z) (Kd.aU aq) hb);have ay:=k0 (Kd.b8 (aV bw.z) (Kd.aU aq) hb);have anC:=k0 (Kd.b8 (aV bM.z) (Kd.aU aq) hb);have aD:=k0 (Kd.cH (Kd.cR aq (Kd.bK (aR aE.z))) (anG bl));have anE:=kB aJ hb;have anP:=kB aZ hb;have bL:=kB anN hb;have b6:=k0 (anH bl hb);clear aE;clear anL;clear bw;clear bM;clear aJ;clear aZ;clear anN;clear HB;have aE:=av;have anL:=ax;have bw:=ay;have bM:=anC;have tj:=aD;have aJ:=anE;have aZ:=anP;have anN:=bL;have HB:=b6;clear av ax ay anC aD anE anP bL b6;));go_upto_region 35 with (first|(go_at_call 46;(with_reducible refine (lf.calls AO t102 _ _ t103 t151 t154 _ ?aA ?anD GI.z).mono ?_);(case aA=>exact aC ((Kd.cN anL.z).2.2));(case anD=>exact (Kd.cN anL.z).2.1);rintro e TH ⟨v152,rfl,aq,hb⟩;have av:=k0 (Kd.cQ (aR aE.z) (Kd.aU aq) hb);have ax:=k0 (Kd.b8 (aV anL.z) (Kd.aU aq) hb);have ay:=k0 (Kd.b8 (aV bw.z) (Kd.aU aq) hb);have anC:=k0 (Kd.b8 (aV bM.z) (Kd.aU aq) hb);have aD:=k0 (Kd.cH (Kd.cR aq (Kd.bK (aR aE.z))) (anG bl));have anE:=kB aJ hb;have anP:=kB aZ hb;have bL:=kB anN hb;have b6:=k0 (anH bl hb);clear aE;clear anL;clear bw;clear bM;clear aJ;clear aZ;clear anN;clear HB;have aE:=av;have anL:=ax;have bw:=ay;have bM:=anC;have tj:=aD;have aJ:=anE;have aZ:=anP;have anN:=bL;have HB:=b6;clear av ax ay anC aD anE anP bL b6;)))
                (try simp only [Act.put,zI,zZ,zS])
                go_cut [176] (fun afl wc=>∃ (kq:Nat) (Gx:Bool),afl=.bool Gx∧ak (anR.j6 kq t107 t151 Gx t102 t103=some r)∧ak (kq≤AO)∧ak (Kd.R (Kd.int .i64) 2 wc w.heap.size (fun k_=>some k_ ≠ (v152:Value).ownBlock) cw t107)∧ak (Kd.R (Kd.int .i64) 2 wc w.heap.size (fun k_=>some k_ ≠ (cw:Value).ownBlock) v152 t151)∧ak (Kd.V (Kd.slice 2 (Kd.int .i64)) 28 wc w.heap.size (fun k_=>some k_ ≠ (cw:Value).ownBlock∧some k_ ≠ (v152:Value).ownBlock∧k_ ≠ bW∧k_ ≠ cr∧k_ ≠ cj) (.slice eG t103.length dZ) t103)∧ak (Kd.V (Kd.slice 2 (Kd.int .i64)) 28 wc w.heap.size (fun k_=>some k_ ≠ (cw:Value).ownBlock∧some k_ ≠ (v152:Value).ownBlock∧k_ ≠ bW∧k_ ≠ cr∧k_ ≠ cj) (.slice an2 t117.length dA) t117)∧ak (Kd.V (Kd.slice 2 (Kd.int .i64)) 28 wc w.heap.size (fun k_=>some k_ ≠ (cw:Value).ownBlock∧some k_ ≠ (v152:Value).ownBlock∧k_ ≠ bW∧k_ ≠ cr∧k_ ≠ cj) (.slice d_ t131.length dQ) t131)∧ak (wc.heap[bW]?=some (sO t102 eG t103 dZ 31))∧ak (wc.heap[cr]?=some (sO t116 an2 t117 dA 31))∧ak (wc.heap[cj]?=some (sO t130 d_ t131 dQ 31))∧ak (Below w.heap.size w wc))
                case first =>
                 have H:=G2.z
                 clear G2
                 by_cases c124:t154=0
                 case neg =>
                  rw [if_neg c124] at H
                  have B4:(t154 == 0)=false:=beq_eq_false_iff_ne.mpr c124
                  have XE:(t154 != 0)=true:=bne_iff_ne.mpr c124
                  (first|rw [B4]|(simp only [dX,eZ];rw [B4])|skip)
                  have H':=k0 H
                  clear H
                  go_wp2
                  repeat (go_quiet (fail);try go_wp2)
                  go_meet
                  case rel=>exact ⟨_,(true),rs,H',⟨by have:=lQ.out;have:=mJ.out;have:=nM.out;have:=oU.out;have:=vH.out;first|omega|exact Nat.le_refl _⟩,⟨aR (Kd.aT aE.z (fun _ hk=>hk.2))⟩,⟨aR (Kd.aT tj.z (fun _ hk=>hk.2))⟩,⟨aV (Kd.anJ anL.z (fun _ hk=>⟨hk.1.1,⟨hk.2,⟨hk.1.2.1,⟨hk.1.2.2.1,hk.1.2.2.2⟩⟩⟩⟩))⟩,⟨aV (Kd.anJ bw.z (fun _ hk=>⟨hk.1.1,⟨hk.2,⟨hk.1.2.1,⟨hk.1.2.2.1,hk.1.2.2.2⟩⟩⟩⟩))⟩,⟨aV (Kd.anJ bM.z (fun _ hk=>⟨hk.1.1,⟨hk.2,⟨hk.1.2.1,⟨hk.1.2.2.1,hk.1.2.2.2⟩⟩⟩⟩))⟩,⟨bk⟩,⟨bk⟩,⟨bk⟩,⟨bl⟩⟩
                 rw [if_pos c124] at H
                 have B4:(t154 == 0)=true:=beq_iff_eq.mpr c124
                 have XE:(t154 != 0)=false:=bne_eq_false_iff_eq.mpr c124
                 clear c124
                 (first|rw [B4]|(simp only [dX,eZ];rw [B4])|skip)
                 have H':=k0 H
                 clear H
                 obtain ⟨afL,ahx,Zc⟩:=Kd.cK tj.z
                 subst Zc
                 obtain ⟨afM,ahy,Zd⟩:=Kd.cK aE.z
                 subst Zd
                 go_wp2
                 repeat (go_quiet (fail);try go_wp2)
                 go_meet
                 case rel=>exact ⟨_,(((t151.length:Int) != (t107.length:Int))),rs,H',⟨by have:=lQ.out;have:=mJ.out;have:=nM.out;have:=oU.out;have:=vH.out;first|omega|exact Nat.le_refl _⟩,⟨aR (Kd.aT aE.z (fun _ hk=>hk.2))⟩,⟨aR (Kd.aT tj.z (fun _ hk=>hk.2))⟩,⟨aV (Kd.anJ anL.z (fun _ hk=>⟨hk.1.1,⟨hk.2,⟨hk.1.2.1,⟨hk.1.2.2.1,hk.1.2.2.2⟩⟩⟩⟩))⟩,⟨aV (Kd.anJ bw.z (fun _ hk=>⟨hk.1.1,⟨hk.2,⟨hk.1.2.1,⟨hk.1.2.2.1,hk.1.2.2.2⟩⟩⟩⟩))⟩,⟨aV (Kd.anJ bM.z (fun _ hk=>⟨hk.1.1,⟨hk.2,⟨hk.1.2.1,⟨hk.1.2.2.1,hk.1.2.2.2⟩⟩⟩⟩))⟩,⟨bk⟩,⟨bk⟩,⟨bk⟩,⟨bl⟩⟩
                case rest=>as_aux_lemma =>
                 clear G2
                 obtain ⟨kq,Gx,rfl,HA,zN,aE,aoP,anL,bw,bM,aJ,aZ,anN,HB⟩:=hcut
                 cases kq with
                 | zero=>exact absurd HA.z (by simp [anR.j6])
                 | succ FU =>
                  have H:=HA.z
                  clear HA
                  simp only [anR.j6] at H
                  by_cases c127:Gx=true
                  case neg =>
                   replace c127:=Bool.eq_false_iff.mpr c127
                   subst c127
                   have H1:(anR.l1 FU t107 t151 0 t102 t103)=some r:=by rw [if_neg (show ¬ (false=true) by decide)] at H;exact H
                   clear H
                   have H:=H1
                   clear H1
                   have G3:=k0 H
                   clear H
                   go_upto_block 2 with (fail)
                   repeat (go_quiet (fail);go_upto_block 2 with (fail))
                   go_cut [] (fun wc=>∃ (kq:Nat),ak (anR.j8 kq t107 t102 t103=some r)∧ak (kq≤FU)∧ak (Kd.R (Kd.int .i64) 2 wc w.heap.size (fun _=>True) cw t107)∧ak (Kd.V (Kd.slice 2 (Kd.int .i64)) 28 wc w.heap.size (fun k_=>some k_ ≠ (cw:Value).ownBlock∧k_ ≠ bW∧k_ ≠ cr∧k_ ≠ cj) (.slice eG t103.length dZ) t103)∧ak (Kd.V (Kd.slice 2 (Kd.int .i64)) 28 wc w.heap.size (fun k_=>some k_ ≠ (cw:Value).ownBlock∧k_ ≠ bW∧k_ ≠ cr∧k_ ≠ cj) (.slice an2 t117.length dA) t117)∧ak (Kd.V (Kd.slice 2 (Kd.int .i64)) 28 wc w.heap.size (fun k_=>some k_ ≠ (cw:Value).ownBlock∧k_ ≠ bW∧k_ ≠ cr∧k_ ≠ cj) (.slice d_ t131.length dQ) t131)∧ak (wc.heap[bW]?=some (sO t102 eG t103 dZ 31))∧ak (wc.heap[cr]?=some (sO t116 an2 t117 dA 31))∧ak (wc.heap[cj]?=some (sO t130 d_ t131 dQ 31))∧ak (Below w.heap.size w wc))
                   case first =>
                    have H:=G3.z
                    clear G3
                    have H':=k0 H
                    clear H
                    go_wp2
                    repeat (go_quiet (fail);try go_wp2)
                    go_loopg [23] FU (fun kq v23 w'=>∃ (fl:Int),v23=.int .i64 fl∧ak (anR.l1 kq t107 t151 fl t102 t103=some r)∧ak (kq≤FU)∧ak (Kd.R (Kd.int .i64) 2 w' w.heap.size (fun k_=>some k_ ≠ (v152:Value).ownBlock) cw t107)∧ak (Kd.R (Kd.int .i64) 2 w' w.heap.size (fun k_=>some k_ ≠ (cw:Value).ownBlock) v152 t151)∧ak (Kd.V (Kd.slice 2 (Kd.int .i64)) 28 w' w.heap.size (fun k_=>some k_ ≠ (cw:Value).ownBlock∧some k_ ≠ (v152:Value).ownBlock∧k_ ≠ bW∧k_ ≠ cr∧k_ ≠ cj) (.slice eG t103.length dZ) t103)∧ak (Kd.V (Kd.slice 2 (Kd.int .i64)) 28 w' w.heap.size (fun k_=>some k_ ≠ (cw:Value).ownBlock∧some k_ ≠ (v152:Value).ownBlock∧k_ ≠ bW∧k_ ≠ cr∧k_ ≠ cj) (.slice an2 t117.length dA) t117)∧ak (Kd.V (Kd.slice 2 (Kd.int .i64)) 28 w' w.heap.size (fun k_=>some k_ ≠ (cw:Value).ownBlock∧some k_ ≠ (v152:Value).ownBlock∧k_ ≠ bW∧k_ ≠ cr∧k_ ≠ cj) (.slice d_ t131.length dQ) t131)∧ak (w'.heap[bW]?=some (sO t102 eG t103 dZ 31))∧ak (w'.heap[cr]?=some (sO t116 an2 t117 dA 31))∧ak (w'.heap[cj]?=some (sO t130 d_ t131 dQ 31))∧ak (Below w.heap.size w w'))
                    case atStart=>exact ⟨(0),rs,H',⟨Nat.le_refl _⟩,⟨aR (aE.z)⟩,⟨aR (aoP.z)⟩,⟨aV (anL.z)⟩,⟨aV (bw.z)⟩,⟨aV (bM.z)⟩,⟨bk⟩,⟨bk⟩,⟨bk⟩,⟨bl⟩⟩
                    case round=>as_aux_lemma =>
                     clear H'
                     obtain ⟨fl,rfl,HA,Eo,aE,aoP,anL,bw,bM,aJ,aZ,anN,HB⟩:=hrel
                     cases gk with
                     | zero=>exact absurd HA.z (by simp [anR.l1])
                     | succ k7 =>
                      have H:=HA.z
                      clear HA
                      simp only [anR.l1] at H
                      by_cases c129:fl < (t151.length:Int)
                      case neg =>
                       rw [if_neg c129] at H
                       have apM:decide (fl < (t151.length:Int))=false:=decide_eq_false c129
                       clear c129
                       (first|rw [apM]|(simp only [dX,eZ];rw [apM])|skip)
                       have H':=k0 H
                       clear H
                       obtain ⟨afT,ahF,Zl⟩:=Kd.cK aoP.z
                       subst Zl
                       go_wp2
                       repeat (go_quiet (fail);try go_wp2)
                       go_meet
                       case rel=>exact ⟨_,H',⟨by have:=lQ.out;have:=mJ.out;have:=nM.out;have:=oU.out;have:=vH.out;have:=zN.out;have:=Eo.z;first|omega|exact Nat.le_refl _⟩,⟨aR (Kd.aT aE.z (fun _ hk=>trivial))⟩,⟨aV (Kd.anJ anL.z (fun _ hk=>⟨hk.1,⟨hk.2.2.1,⟨hk.2.2.2.1,hk.2.2.2.2⟩⟩⟩))⟩,⟨aV (Kd.anJ bw.z (fun _ hk=>⟨hk.1,⟨hk.2.2.1,⟨hk.2.2.2.1,hk.2.2.2.2⟩⟩⟩))⟩,⟨aV (Kd.anJ bM.z (fun _ hk=>⟨hk.1,⟨hk.2.2.1,⟨hk.2.2.2.1,hk.2.2.2.2⟩⟩⟩))⟩,⟨bk⟩,⟨bk⟩,⟨bk⟩,⟨bl⟩⟩
                      rw [if_pos c129] at H
                      have apM:=decide_eq_true c129
                      clear c129
                      (first|rw [apM]|(simp only [dX,eZ];rw [apM])|skip)
                      replace H:=iS H;obtain ⟨c130,H⟩:=H
                      have agM:=decide_eq_true c130
                      clear c130
                      replace H:=iS H;obtain ⟨c131,H⟩:=H
                      have agN:=decide_eq_true c131
                      clear c131
                      by_cases c132:(rd t151 fl)=(rd t107 fl)
                      case neg =>
                       rw [if_neg c132] at H
                       have XG:((rd t151 fl) == (rd t107 fl))=false:=beq_eq_false_iff_ne.mpr c132
                       have XH:((rd t151 fl) != (rd t107 fl))=true:=bne_iff_ne.mpr c132
                       by_cases c135:(rd t107 fl) > (rd t151 fl)
                       case neg =>
                        rw [if_neg c135] at H
                        have XI:decide ((rd t151 fl) < (rd t107 fl))=false:=decide_eq_false c135
                        clear c135
                        have H':=k0 H
                        clear H
                        obtain ⟨afR,ahD,Zj⟩:=Kd.cK aoP.z
                        subst Zj
                        have sS:0≤(fl:Int):=oD
                        have sX:fl < (t151.length:Int):=oD
                        obtain ⟨EM,e155,Sj⟩:=Kd.cm (Kd.anT aoP.z).2.2 fl sS sX
                        cases e155
                        replace sS:=eq_true sS
                        replace sX:=eq_true sX
                        obtain ⟨afS,ahE,Zk⟩:=Kd.cK aE.z
                        subst Zk
                        have sU:0≤(fl:Int):=oD
                        have sY:fl < (t107.length:Int):=oD
                        obtain ⟨EN,e156,Sk⟩:=Kd.cm (Kd.anT aE.z).2.2 fl sU sY
                        cases e156
                        replace sU:=eq_true sU
                        replace sY:=eq_true sY
                        have yO:0≤(fl:Int):=oD
                        have yY:fl < (t107.length:Int):=oD
                        obtain ⟨Io,e157,acD⟩:=Kd.cm (Kd.anT aE.z).2.2 fl yO yY
                        obtain rfl:EN=Io:=(by injection e157)
                        replace yO:=eq_true yO
                        replace yY:=eq_true yY
                        have yP:0≤(fl:Int):=oD
                        have yZ:fl < (t151.length:Int):=oD
                        obtain ⟨Ip,e158,acE⟩:=Kd.cm (Kd.anT aoP.z).2.2 fl yP yZ
                        obtain rfl:EM=Ip:=(by injection e158)
                        replace yP:=eq_true yP
                        replace yZ:=eq_true yZ
                        go_wp2
                        repeat (go_quiet (fail);try go_wp2)
                        go_meet
                        case rel=>exact ⟨_,H',⟨by have:=lQ.out;have:=mJ.out;have:=nM.out;have:=oU.out;have:=vH.out;have:=zN.out;have:=Eo.z;first|omega|exact Nat.le_refl _⟩,⟨aR (Kd.aT aE.z (fun _ hk=>trivial))⟩,⟨aV (Kd.anJ anL.z (fun _ hk=>⟨hk.1,⟨hk.2.2.1,⟨hk.2.2.2.1,hk.2.2.2.2⟩⟩⟩))⟩,⟨aV (Kd.anJ bw.z (fun _ hk=>⟨hk.1,⟨hk.2.2.1,⟨hk.2.2.2.1,hk.2.2.2.2⟩⟩⟩))⟩,⟨aV (Kd.anJ bM.z (fun _ hk=>⟨hk.1,⟨hk.2.2.1,⟨hk.2.2.2.1,hk.2.2.2.2⟩⟩⟩))⟩,⟨bk⟩,⟨bk⟩,⟨bk⟩,⟨bl⟩⟩
                       rw [if_pos c135] at H
                       have XI:=decide_eq_true c135
                       clear c135
                       obtain rfl:=Option.some.inj H
                       obtain ⟨afP,ahB,Zh⟩:=Kd.cK aoP.z
                       subst Zh
                       have sS:0≤(fl:Int):=oD
                       have sX:fl < (t151.length:Int):=oD
                       obtain ⟨EM,e155,Sj⟩:=Kd.cm (Kd.anT aoP.z).2.2 fl sS sX
                       cases e155
                       replace sS:=eq_true sS
                       replace sX:=eq_true sX
                       obtain ⟨afQ,ahC,Zi⟩:=Kd.cK aE.z
                       subst Zi
                       have sU:0≤(fl:Int):=oD
                       have sY:fl < (t107.length:Int):=oD
                       obtain ⟨EN,e156,Sk⟩:=Kd.cm (Kd.anT aE.z).2.2 fl sU sY
                       cases e156
                       replace sU:=eq_true sU
                       replace sY:=eq_true sY
                       have yO:0≤(fl:Int):=oD
                       have yY:fl < (t107.length:Int):=oD
                       obtain ⟨Io,e157,acD⟩:=Kd.cm (Kd.anT aE.z).2.2 fl yO yY
                       obtain rfl:EN=Io:=(by injection e157)
                       replace yO:=eq_true yO
                       replace yY:=eq_true yY
                       have yP:0≤(fl:Int):=oD
                       have yZ:fl < (t151.length:Int):=oD
                       obtain ⟨Ip,e158,acE⟩:=Kd.cm (Kd.anT aoP.z).2.2 fl yP yZ
                       obtain rfl:EM=Ip:=(by injection e158)
                       replace yP:=eq_true yP
                       replace yZ:=eq_true yZ
                       go_wp2
                       repeat (go_quiet (fail);try go_wp2)
                       go_ret
                       exact ⟨eR,bl⟩
                      rw [if_pos c132] at H
                      have XG:((rd t151 fl) == (rd t107 fl))=true:=beq_iff_eq.mpr c132
                      have XH:((rd t151 fl) != (rd t107 fl))=false:=bne_eq_false_iff_eq.mpr c132
                      clear c132
                      have H':=k0 H
                      clear H
                      obtain ⟨afN,ahz,Zf⟩:=Kd.cK aoP.z
                      subst Zf
                      have sS:0≤(fl:Int):=oD
                      have sX:fl < (t151.length:Int):=oD
                      obtain ⟨EM,e155,Sj⟩:=Kd.cm (Kd.anT aoP.z).2.2 fl sS sX
                      cases e155
                      replace sS:=eq_true sS
                      replace sX:=eq_true sX
                      obtain ⟨afO,ahA,Zg⟩:=Kd.cK aE.z
                      subst Zg
                      have sU:0≤(fl:Int):=oD
                      have sY:fl < (t107.length:Int):=oD
                      obtain ⟨EN,e156,Sk⟩:=Kd.cm (Kd.anT aE.z).2.2 fl sU sY
                      cases e156
                      replace sU:=eq_true sU
                      replace sY:=eq_true sY
                      go_wp2
                      repeat (go_quiet (fail);try go_wp2)
                      go_roundg k7
                      case measure=>have:=lQ.out;have:=mJ.out;have:=nM.out;have:=oU.out;have:=vH.out;have:=zN.out;have:=Eo.z;omega
                      case rel=>exact ⟨(wrap64 (fl+1)),rs,H',⟨by have:=lQ.out;have:=mJ.out;have:=nM.out;have:=oU.out;have:=vH.out;have:=zN.out;have:=Eo.z;omega⟩,⟨aR (aE.z)⟩,⟨aR (aoP.z)⟩,⟨aV (anL.z)⟩,⟨aV (bw.z)⟩,⟨aV (bM.z)⟩,⟨bk⟩,⟨bk⟩,⟨bk⟩,⟨bl⟩⟩
                   case rest=>as_aux_lemma =>
                    clear G3
                    obtain ⟨kq,HA,Nl,aE,anL,bw,bM,aJ,aZ,anN,HB⟩:=hcut
                    cases kq with
                    | zero=>exact absurd HA.z (by simp [anR.j8])
                    | succ KH =>
                     have H:=HA.z
                     clear HA
                     simp only [anR.j8] at H
                     obtain ⟨Uc,KB⟩:∃ y_:List Int,y_=(([]:List Int)):=⟨_,rfl⟩
                     replace H:(anR.l2 KH t107 Uc 0 t102 t103)=some r:=rH KB H
                     have apu:=k0 KB
                     clear KB
                     have H':=k0 H
                     clear H
                     go_wp2_with (first|((with_reducible refine bN (N:=201) rfl ?_);(try (refine fV (by rfl) ?_;dsimp only));refine Kd.jd (Kd.int .i64) _ 2 ?hg (N:=201) ?hd (xs:=([]:List Int)) (inner:=[]) (ok:=fun _=>True) (anX:=fun _=>True) ?hr ?hp (fun _ hk=>hk) trivial (Below.refl _ _) (Nat.le_refl _) (by simp) ?_;(case hd=>rfl);(case hg=>rfl);(case hr=>first|(go_simp;done)|(go_simp;rfl));(case hp=>exact (bu.none _ _));intro v160 TI jC hb c_ dc;clear c_ dc;(first|rw [← apu.z] at jC|(simp only [Int.reduceToNat] at jC;rw [← apu.z] at jC));have av:=k0 (Kd.cQ (aR aE.z) (Kd.aU jC) hb);have ax:=k0 (Kd.b8 (aV anL.z) (Kd.aU jC) hb);have ay:=k0 (Kd.b8 (aV bw.z) (Kd.aU jC) hb);have anC:=k0 (Kd.b8 (aV bM.z) (Kd.aU jC) hb);have aD:=k0 (Kd.cH (Kd.cR jC (Kd.bK (aR aE.z))) (anG bl));have anE:=kB aJ hb;have anP:=kB aZ hb;have bL:=kB anN hb;have b6:=k0 (anH bl hb);clear aE;clear anL;clear bw;clear bM;clear aJ;clear aZ;clear anN;clear HB;have aE:=av;have anL:=ax;have bw:=ay;have bM:=anC;have Hq:=aD;have aJ:=anE;have aZ:=anP;have anN:=bL;have HB:=b6;clear av ax ay anC aD anE anP bL b6;clear hb jC))
                     repeat (go_quiet (first|((with_reducible refine bN (N:=201) rfl ?_);(try (refine fV (by rfl) ?_;dsimp only));refine Kd.jd (Kd.int .i64) _ 2 ?hg (N:=201) ?hd (xs:=([]:List Int)) (inner:=[]) (ok:=fun _=>True) (anX:=fun _=>True) ?hr ?hp (fun _ hk=>hk) trivial (Below.refl _ _) (Nat.le_refl _) (by simp) ?_;(case hd=>rfl);(case hg=>rfl);(case hr=>first|(go_simp;done)|(go_simp;rfl));(case hp=>exact (bu.none _ _));intro v160 TI jC hb c_ dc;clear c_ dc;(first|rw [← apu.z] at jC|(simp only [Int.reduceToNat] at jC;rw [← apu.z] at jC));have av:=k0 (Kd.cQ (aR aE.z) (Kd.aU jC) hb);have ax:=k0 (Kd.b8 (aV anL.z) (Kd.aU jC) hb);have ay:=k0 (Kd.b8 (aV bw.z) (Kd.aU jC) hb);have anC:=k0 (Kd.b8 (aV bM.z) (Kd.aU jC) hb);have aD:=k0 (Kd.cH (Kd.cR jC (Kd.bK (aR aE.z))) (anG bl));have anE:=kB aJ hb;have anP:=kB aZ hb;have bL:=kB anN hb;have b6:=k0 (anH bl hb);clear aE;clear anL;clear bw;clear bM;clear aJ;clear aZ;clear anN;clear HB;have aE:=av;have anL:=ax;have bw:=ay;have bM:=anC;have Hq:=aD;have aJ:=anE;have aZ:=anP;have anN:=bL;have HB:=b6;clear av ax ay anC aD anE anP bL b6;clear hb jC));try go_wp2_with (first|((with_reducible refine bN (N:=201) rfl ?_);(try (refine fV (by rfl) ?_;dsimp only));refine Kd.jd (Kd.int .i64) _ 2 ?hg (N:=201) ?hd (xs:=([]:List Int)) (inner:=[]) (ok:=fun _=>True) (anX:=fun _=>True) ?hr ?hp (fun _ hk=>hk) trivial (Below.refl _ _) (Nat.le_refl _) (by simp) ?_;(case hd=>rfl);(case hg=>rfl);(case hr=>first|(go_simp;done)|(go_simp;rfl));(case hp=>exact (bu.none _ _));intro v160 TI jC hb c_ dc;clear c_ dc;(first|rw [← apu.z] at jC|(simp only [Int.reduceToNat] at jC;rw [← apu.z] at jC));have av:=k0 (Kd.cQ (aR aE.z) (Kd.aU jC) hb);have ax:=k0 (Kd.b8 (aV anL.z) (Kd.aU jC) hb);have ay:=k0 (Kd.b8 (aV bw.z) (Kd.aU jC) hb);have anC:=k0 (Kd.b8 (aV bM.z) (Kd.aU jC) hb);have aD:=k0 (Kd.cH (Kd.cR jC (Kd.bK (aR aE.z))) (anG bl));have anE:=kB aJ hb;have anP:=kB aZ hb;have bL:=kB anN hb;have b6:=k0 (anH bl hb);clear aE;clear anL;clear bw;clear bM;clear aJ;clear aZ;clear anN;clear HB;have aE:=av;have anL:=ax;have bw:=ay;have bM:=anC;have Hq:=aD;have aJ:=anE;have aZ:=anP;have anN:=bL;have HB:=b6;clear av ax ay anC aD anE anP bL b6;clear hb jC)))
                     go_loopg [24,25] KH (fun kq v24 v25 w'=>∃ (iG:List Int) (qu:Int),v25=.int .i64 qu∧ak (anR.l2 kq t107 iG qu t102 t103=some r)∧ak (kq≤KH)∧ak (Kd.R (Kd.int .i64) 2 w' w.heap.size (fun k_=>some k_ ≠ (v24:Value).ownBlock) cw t107)∧ak (Kd.R (Kd.int .i64) 2 w' w.heap.size (fun k_=>some k_ ≠ (cw:Value).ownBlock) v24 iG)∧ak (Kd.V (Kd.slice 2 (Kd.int .i64)) 28 w' w.heap.size (fun k_=>some k_ ≠ (cw:Value).ownBlock∧some k_ ≠ (v24:Value).ownBlock∧k_ ≠ bW∧k_ ≠ cr∧k_ ≠ cj) (.slice eG t103.length dZ) t103)∧ak (Kd.V (Kd.slice 2 (Kd.int .i64)) 28 w' w.heap.size (fun k_=>some k_ ≠ (cw:Value).ownBlock∧some k_ ≠ (v24:Value).ownBlock∧k_ ≠ bW∧k_ ≠ cr∧k_ ≠ cj) (.slice an2 t117.length dA) t117)∧ak (Kd.V (Kd.slice 2 (Kd.int .i64)) 28 w' w.heap.size (fun k_=>some k_ ≠ (cw:Value).ownBlock∧some k_ ≠ (v24:Value).ownBlock∧k_ ≠ bW∧k_ ≠ cr∧k_ ≠ cj) (.slice d_ t131.length dQ) t131)∧ak (w'.heap[bW]?=some (sO t102 eG t103 dZ 31))∧ak (w'.heap[cr]?=some (sO t116 an2 t117 dA 31))∧ak (w'.heap[cj]?=some (sO t130 d_ t131 dQ 31))∧ak (Below w.heap.size w w'))
                     case atStart=>exact ⟨(Uc),(0),rs,H',⟨Nat.le_refl _⟩,⟨aR (Kd.aT aE.z (fun _ hk=>hk.2))⟩,⟨aR (Kd.aT Hq.z (fun _ hk=>hk.2))⟩,⟨aV (Kd.anJ anL.z (fun _ hk=>⟨hk.1.1,⟨hk.2,⟨hk.1.2.1,⟨hk.1.2.2.1,hk.1.2.2.2⟩⟩⟩⟩))⟩,⟨aV (Kd.anJ bw.z (fun _ hk=>⟨hk.1.1,⟨hk.2,⟨hk.1.2.1,⟨hk.1.2.2.1,hk.1.2.2.2⟩⟩⟩⟩))⟩,⟨aV (Kd.anJ bM.z (fun _ hk=>⟨hk.1.1,⟨hk.2,⟨hk.1.2.1,⟨hk.1.2.2.1,hk.1.2.2.2⟩⟩⟩⟩))⟩,⟨bk⟩,⟨bk⟩,⟨bk⟩,⟨bl⟩⟩
                     case round=>as_aux_lemma =>
                      clear H'
                      obtain ⟨iG,qu,rfl,HA,Np,aE,bQ,anL,bw,bM,aJ,aZ,anN,HB⟩:=hrel
                      cases gk with
                      | zero=>exact absurd HA.z (by simp [anR.l2])
                      | succ k8 =>
                       have H:=HA.z
                       clear HA
                       simp only [anR.l2] at H
                       by_cases c143:qu < t102
                       case neg =>
                        rw [if_neg c143] at H
                        have XJ:decide (qu < t102)=false:=decide_eq_false c143
                        clear c143
                        replace H:=Option.bind_eq_some_iff.mp H
                        obtain ⟨⟨t165,t166,t169⟩,L9,H⟩:=H
                        replace H:((dG.f k8 t165 t166).bind fun BW=>(if t169=0 then (if BW.2=0 then ((ef.f k8 BW.1 t107).bind fun t175=>(some t175)) else (some false)) else (some false)))=some r:=H
                        have tW:=k0 L9
                        clear L9
                        replace H:=Option.bind_eq_some_iff.mp H
                        obtain ⟨⟨t171,t174⟩,L_,H⟩:=H
                        replace H:(if t169=0 then (if t174=0 then ((ef.f k8 t171 t107).bind fun t175=>(some t175)) else (some false)) else (some false))=some r:=H
                        have qV:=k0 L_
                        clear L_
                        by_cases c151:t169=0
                        case neg =>
                         rw [if_neg c151] at H
                         have XM:(t169 == 0)=false:=beq_eq_false_iff_ne.mpr c151
                         have XN:(t169 != 0)=true:=bne_iff_ne.mpr c151
                         obtain rfl:=Option.some.inj H
                         have ak':=l7.z
                         have al5:=rU.z
                         have ak_:=jW.z
                         have al6:=l8.z
                         have ain:=aX aJ
                         have aio:=aY aJ
                         have ajO:=bF aJ 0
                         have ajP:=bF aJ 1
                         obtain ⟨zy,Ap,Zo⟩:=Kd.cK bQ.z
                         subst Zo
                         go_wp2_with (first|(go_at_call 51;(with_reducible refine (eM.calls k8 t102 _ _ t103 _ _ iG t165 t166 t169 _ ?aA ?anD ?cP ?dB tW.z).mono ?_);(case aA=>exact aC ((Kd.cN anL.z).2.2));(case anD=>exact (Kd.cN anL.z).2.1);(case cP=>exact aC ((Kd.anT bQ.z).2.2));(case dB=>exact (Kd.anT bQ.z).2.1);rintro e TS ⟨v167,rfl,aq,hb⟩;have av:=k0 (Kd.dg (aR aE.z) hb);have ax:=k0 (Kd.dg (aR bQ.z) hb);have ay:=k0 (Kd.b8 (aV anL.z) (Kd.an_ aq) hb);have anC:=k0 (Kd.b8 (aV bw.z) (Kd.an_ aq) hb);have aD:=k0 (Kd.b8 (aV bM.z) (Kd.an_ aq) hb);have anE:=k0 (Kd.gD (Kd.jy (Kd.jy aq (Kd.bK (aR aE.z))) (Kd.bK (aR bQ.z))) (anG bl));have anP:=kB aJ hb;have bL:=kB aZ hb;have b6:=kB anN hb;have cM:=k0 (anH bl hb);clear aE;clear bQ;clear anL;clear bw;clear bM;clear aJ;clear aZ;clear anN;clear HB;have aE:=av;have bQ:=ax;have anL:=ay;have bw:=anC;have bM:=aD;have cJ:=anE;have aJ:=anP;have aZ:=bL;have anN:=b6;have HB:=cM;clear av ax ay anC aD anE anP bL b6 cM;)|((with_reducible refine bN (N:=26) rfl ?_);(try (refine fV (by rfl) ?_;dsimp only));refine cE 26 #[.int .i64 0,.slice none 0 0] 31 ?_;intro bC hg TT aG hb;have av:=k0 (Kd.dg (aR aE.z) hb);have ax:=k0 (Kd.dg (aR bQ.z) hb);have ay:=k0 (Kd.dz (Kd.ej (aV anL.z) bC (Nat.le_of_eq hg.symm)) hb);have anC:=k0 (Kd.dz (Kd.ej (aV bw.z) bC (Nat.le_of_eq hg.symm)) hb);have aD:=k0 (Kd.dz (Kd.ej (aV bM.z) bC (Nat.le_of_eq hg.symm)) hb);have anE:=k0 (Kd.kn (aS cJ.z) hb);have anP:=kB aJ hb;have bL:=kB aZ hb;have b6:=kB anN hb;have cM:=k0 (anH bl hb);have fe:=k0 (aG);have gp:=k0 ((by rw [hg];exact (anG bl):w.heap.size≤bC));have gB:=k0 ((by rw [hg];exact (anG bl):w.heap.size≤bC));have fk:=nL hg aJ;have iq:=nG fk;have ir:=nL hg aZ;have aok:=nG ir;have iu:=nL hg anN;have aol:=nG iu;clear aE;clear bQ;clear anL;clear bw;clear bM;clear cJ;clear aJ;clear aZ;clear anN;clear HB;have aE:=av;have bQ:=ax;have anL:=ay;have bw:=anC;have bM:=aD;have cJ:=anE;have aJ:=anP;have aZ:=bL;have anN:=b6;have HB:=cM;have b7:=fe;have vG:=gp;have vF:=gB;have ia:=fk;have nS:=iq;have ic:=ir;have nT:=aok;have ie:=iu;have nU:=aol;clear av ax ay anC aD anE anP bL b6 cM fe gp gB fk iq ir aok iu aol;clear hb aG hg;have Rx:=nS.z;have RQ:=ia.z;have Ry:=nT.z;have RR:=ic.z;have Rz:=nU.z;have RS:=ie.z;have Qi:=aX b7;have Qj:=aY b7;have QG:=bF b7 0;have QH:=bF b7 1;obtain ⟨aob,an8,Co⟩:=Kd.eH cJ.z;subst Co)|(go_at_call 42;(with_reducible refine (dG.calls k8 t165 _ _ t166 t171 t174 _ ?aA ?anD qV.z).mono ?_);(case aA=>first|(refine (Kd.anY (e:=28) (base:=w.heap.size) (ok:=fun k_=>((True∧some k_ ≠ (cw:Value).ownBlock)∧some k_ ≠ (.slice zy iG.length Ap:Value).ownBlock)) (n:=t166.length) (c:=an8) ?_).2.2;exact (by (with_reducible repeat (first|apply Kd.di|apply Kd.dm|apply Kd.cS));exact (Kd.anW (gS 1 (.slice aob t166.length an8) (gS 0 (.int .i64 t165) (tS cJ b7))) (fun _ h_=>h_.1))))|(refine (Kd.anY (e:=28) (base:=w.heap.size) (ok:=fun k_=>(some k_ ≠ (cw:Value).ownBlock∧some k_ ≠ (.slice zy iG.length Ap:Value).ownBlock)) (n:=t166.length) (c:=an8) ?_).2.2;exact (by (with_reducible repeat (first|apply Kd.di|apply Kd.dm|apply Kd.cS));exact (Kd.anW (gS 1 (.slice aob t166.length an8) (gS 0 (.int .i64 t165) (tS cJ b7))) (fun _ h_=>h_.1)))));(case anD=>exact (Kd.anY cJ.z).2.1);rintro e TU ⟨wO,rfl,aq,hb⟩;replace anL:=k0 (Kd.b8 (by (with_reducible repeat (first|apply Kd.cW|apply Kd.cX|apply Kd.cV));exact (Kd.anJ (Kd.bG (p:=⟨bC,1,none⟩) (Kd.bG (p:=⟨bC,0,none⟩) (Kd.anJ anL.z (fun k_ hk=>(⟨hk,hk.2⟩:_∧k_ ≠ bC))) (fun _ hk=>hk.2) (.int .i64 t165)) (fun _ hk=>hk.2) (.slice aob t166.length an8)) (fun _ h_=>h_.1))) (Kd.aU aq) hb);replace bw:=k0 (Kd.b8 (by (with_reducible repeat (first|apply Kd.cW|apply Kd.cX|apply Kd.cV));exact (Kd.anJ (Kd.bG (p:=⟨bC,1,none⟩) (Kd.bG (p:=⟨bC,0,none⟩) (Kd.anJ bw.z (fun k_ hk=>(⟨hk,hk.2⟩:_∧k_ ≠ bC))) (fun _ hk=>hk.2) (.int .i64 t165)) (fun _ hk=>hk.2) (.slice aob t166.length an8)) (fun _ h_=>h_.1))) (Kd.aU aq) hb);replace bM:=k0 (Kd.b8 (by (with_reducible repeat (first|apply Kd.cW|apply Kd.cX|apply Kd.cV));exact (Kd.anJ (Kd.bG (p:=⟨bC,1,none⟩) (Kd.bG (p:=⟨bC,0,none⟩) (Kd.anJ bM.z (fun k_ hk=>(⟨hk,hk.2⟩:_∧k_ ≠ bC))) (fun _ hk=>hk.2) (.int .i64 t165)) (fun _ hk=>hk.2) (.slice aob t166.length an8)) (fun _ h_=>h_.1))) (Kd.aU aq) hb);replace cJ:=k0 (Kd.an6 (by (with_reducible repeat (first|apply Kd.di|apply Kd.dm|apply Kd.cS));exact (Kd.anW (gS 1 (.slice aob t166.length an8) (gS 0 (.int .i64 t165) (tS cJ b7))) (fun _ h_=>h_.1))) (Kd.aU aq) hb);have nO:=k0 (Kd.cH (Kd.cR (Kd.cR aq (Kd.bK (by (with_reducible repeat (first|apply Kd.b_|apply Kd.bZ|apply Kd.bP));exact (Kd.aT (gR 1 (.slice aob t166.length an8) (gR 0 (.int .i64 t165) (tR aE b7))) (fun _ h_=>h_.1))))) (Kd.bK (by (with_reducible repeat (first|apply Kd.b_|apply Kd.bZ|apply Kd.bP));exact (Kd.aT (gR 1 (.slice aob t166.length an8) (gR 0 (.int .i64 t165) (tR bQ b7))) (fun _ h_=>h_.1))))) (anG bl));replace aE:=k0 (Kd.cQ (by (with_reducible repeat (first|apply Kd.b_|apply Kd.bZ|apply Kd.bP));exact (Kd.aT (gR 1 (.slice aob t166.length an8) (gR 0 (.int .i64 t165) (tR aE b7))) (fun _ h_=>h_.1))) (Kd.aU aq) hb);replace bQ:=k0 (Kd.cQ (by (with_reducible repeat (first|apply Kd.b_|apply Kd.bZ|apply Kd.bP));exact (Kd.aT (gR 1 (.slice aob t166.length an8) (gR 0 (.int .i64 t165) (tR bQ b7))) (fun _ h_=>h_.1))) (Kd.aU aq) hb);replace aJ:=k0 (cB (g:=bW) (o:=sO t102 eG t103 dZ 31) (by (with_reducible repeat (first|refine anF ?_ _|refine aH ?_|refine aI ?_ _));refine anU ?_ ia.z _;(with_reducible repeat (first|refine anF ?_ _|refine aH ?_|refine aI ?_ _));refine anU ?_ ia.z _;exact bk) hb);replace aZ:=k0 (cB (g:=cr) (o:=sO t116 an2 t117 dA 31) (by (with_reducible repeat (first|refine anF ?_ _|refine aH ?_|refine aI ?_ _));refine anU ?_ ic.z _;(with_reducible repeat (first|refine anF ?_ _|refine aH ?_|refine aI ?_ _));refine anU ?_ ic.z _;exact bk) hb);replace anN:=k0 (cB (g:=cj) (o:=sO t130 d_ t131 dQ 31) (by (with_reducible repeat (first|refine anF ?_ _|refine aH ?_|refine aI ?_ _));refine anU ?_ ie.z _;(with_reducible repeat (first|refine anF ?_ _|refine aH ?_|refine aI ?_ _));refine anU ?_ ie.z _;exact bk) hb);replace b7:=k0 (cB (g:=bC) (o:=sO t165 aob t166 an8 31) (by (with_reducible repeat (first|refine anF ?_ _|refine aH ?_|refine aI ?_ _));refine anV (cs:=#[.int .i64 t165,.slice none 0 0]) ?_ 1 _ rfl;(with_reducible repeat (first|refine anF ?_ _|refine aH ?_|refine aI ?_ _));refine anV (cs:=#[.int .i64 0,.slice none 0 0]) ?_ 0 _ rfl;exact bk) hb);replace HB:=k0 (anH bl hb);))
                         repeat (go_quiet (first|(go_at_call 51;(with_reducible refine (eM.calls k8 t102 _ _ t103 _ _ iG t165 t166 t169 _ ?aA ?anD ?cP ?dB tW.z).mono ?_);(case aA=>exact aC ((Kd.cN anL.z).2.2));(case anD=>exact (Kd.cN anL.z).2.1);(case cP=>exact aC ((Kd.anT bQ.z).2.2));(case dB=>exact (Kd.anT bQ.z).2.1);rintro e TS ⟨v167,rfl,aq,hb⟩;have av:=k0 (Kd.dg (aR aE.z) hb);have ax:=k0 (Kd.dg (aR bQ.z) hb);have ay:=k0 (Kd.b8 (aV anL.z) (Kd.an_ aq) hb);have anC:=k0 (Kd.b8 (aV bw.z) (Kd.an_ aq) hb);have aD:=k0 (Kd.b8 (aV bM.z) (Kd.an_ aq) hb);have anE:=k0 (Kd.gD (Kd.jy (Kd.jy aq (Kd.bK (aR aE.z))) (Kd.bK (aR bQ.z))) (anG bl));have anP:=kB aJ hb;have bL:=kB aZ hb;have b6:=kB anN hb;have cM:=k0 (anH bl hb);clear aE;clear bQ;clear anL;clear bw;clear bM;clear aJ;clear aZ;clear anN;clear HB;have aE:=av;have bQ:=ax;have anL:=ay;have bw:=anC;have bM:=aD;have cJ:=anE;have aJ:=anP;have aZ:=bL;have anN:=b6;have HB:=cM;clear av ax ay anC aD anE anP bL b6 cM;)|((with_reducible refine bN (N:=26) rfl ?_);(try (refine fV (by rfl) ?_;dsimp only));refine cE 26 #[.int .i64 0,.slice none 0 0] 31 ?_;intro bC hg TT aG hb;have av:=k0 (Kd.dg (aR aE.z) hb);have ax:=k0 (Kd.dg (aR bQ.z) hb);have ay:=k0 (Kd.dz (Kd.ej (aV anL.z) bC (Nat.le_of_eq hg.symm)) hb);have anC:=k0 (Kd.dz (Kd.ej (aV bw.z) bC (Nat.le_of_eq hg.symm)) hb);have aD:=k0 (Kd.dz (Kd.ej (aV bM.z) bC (Nat.le_of_eq hg.symm)) hb);have anE:=k0 (Kd.kn (aS cJ.z) hb);have anP:=kB aJ hb;have bL:=kB aZ hb;have b6:=kB anN hb;have cM:=k0 (anH bl hb);have fe:=k0 (aG);have gp:=k0 ((by rw [hg];exact (anG bl):w.heap.size≤bC));have gB:=k0 ((by rw [hg];exact (anG bl):w.heap.size≤bC));have fk:=nL hg aJ;have iq:=nG fk;have ir:=nL hg aZ;have aok:=nG ir;have iu:=nL hg anN;have aol:=nG iu;clear aE;clear bQ;clear anL;clear bw;clear bM;clear cJ;clear aJ;clear aZ;clear anN;clear HB;have aE:=av;have bQ:=ax;have anL:=ay;have bw:=anC;have bM:=aD;have cJ:=anE;have aJ:=anP;have aZ:=bL;have anN:=b6;have HB:=cM;have b7:=fe;have vG:=gp;have vF:=gB;have ia:=fk;have nS:=iq;have ic:=ir;have nT:=aok;have ie:=iu;have nU:=aol;clear av ax ay anC aD anE anP bL b6 cM fe gp gB fk iq ir aok iu aol;clear hb aG hg;have Rx:=nS.z;have RQ:=ia.z;have Ry:=nT.z;have RR:=ic.z;have Rz:=nU.z;have RS:=ie.z;have Qi:=aX b7;have Qj:=aY b7;have QG:=bF b7 0;have QH:=bF b7 1;obtain ⟨aob,an8,Co⟩:=Kd.eH cJ.z;subst Co)|(go_at_call 42;(with_reducible refine (dG.calls k8 t165 _ _ t166 t171 t174 _ ?aA ?anD qV.z).mono ?_);(case aA=>first|(refine (Kd.anY (e:=28) (base:=w.heap.size) (ok:=fun k_=>((True∧some k_ ≠ (cw:Value).ownBlock)∧some k_ ≠ (.slice zy iG.length Ap:Value).ownBlock)) (n:=t166.length) (c:=an8) ?_).2.2;exact (by (with_reducible repeat (first|apply Kd.di|apply Kd.dm|apply Kd.cS));exact (Kd.anW (gS 1 (.slice aob t166.length an8) (gS 0 (.int .i64 t165) (tS cJ b7))) (fun _ h_=>h_.1))))|(refine (Kd.anY (e:=28) (base:=w.heap.size) (ok:=fun k_=>(some k_ ≠ (cw:Value).ownBlock∧some k_ ≠ (.slice zy iG.length Ap:Value).ownBlock)) (n:=t166.length) (c:=an8) ?_).2.2;exact (by (with_reducible repeat (first|apply Kd.di|apply Kd.dm|apply Kd.cS));exact (Kd.anW (gS 1 (.slice aob t166.length an8) (gS 0 (.int .i64 t165) (tS cJ b7))) (fun _ h_=>h_.1)))));(case anD=>exact (Kd.anY cJ.z).2.1);rintro e TU ⟨wO,rfl,aq,hb⟩;replace anL:=k0 (Kd.b8 (by (with_reducible repeat (first|apply Kd.cW|apply Kd.cX|apply Kd.cV));exact (Kd.anJ (Kd.bG (p:=⟨bC,1,none⟩) (Kd.bG (p:=⟨bC,0,none⟩) (Kd.anJ anL.z (fun k_ hk=>(⟨hk,hk.2⟩:_∧k_ ≠ bC))) (fun _ hk=>hk.2) (.int .i64 t165)) (fun _ hk=>hk.2) (.slice aob t166.length an8)) (fun _ h_=>h_.1))) (Kd.aU aq) hb);replace bw:=k0 (Kd.b8 (by (with_reducible repeat (first|apply Kd.cW|apply Kd.cX|apply Kd.cV));exact (Kd.anJ (Kd.bG (p:=⟨bC,1,none⟩) (Kd.bG (p:=⟨bC,0,none⟩) (Kd.anJ bw.z (fun k_ hk=>(⟨hk,hk.2⟩:_∧k_ ≠ bC))) (fun _ hk=>hk.2) (.int .i64 t165)) (fun _ hk=>hk.2) (.slice aob t166.length an8)) (fun _ h_=>h_.1))) (Kd.aU aq) hb);replace bM:=k0 (Kd.b8 (by (with_reducible repeat (first|apply Kd.cW|apply Kd.cX|apply Kd.cV));exact (Kd.anJ (Kd.bG (p:=⟨bC,1,none⟩) (Kd.bG (p:=⟨bC,0,none⟩) (Kd.anJ bM.z (fun k_ hk=>(⟨hk,hk.2⟩:_∧k_ ≠ bC))) (fun _ hk=>hk.2) (.int .i64 t165)) (fun _ hk=>hk.2) (.slice aob t166.length an8)) (fun _ h_=>h_.1))) (Kd.aU aq) hb);replace cJ:=k0 (Kd.an6 (by (with_reducible repeat (first|apply Kd.di|apply Kd.dm|apply Kd.cS));exact (Kd.anW (gS 1 (.slice aob t166.length an8) (gS 0 (.int .i64 t165) (tS cJ b7))) (fun _ h_=>h_.1))) (Kd.aU aq) hb);have nO:=k0 (Kd.cH (Kd.cR (Kd.cR aq (Kd.bK (by (with_reducible repeat (first|apply Kd.b_|apply Kd.bZ|apply Kd.bP));exact (Kd.aT (gR 1 (.slice aob t166.length an8) (gR 0 (.int .i64 t165) (tR aE b7))) (fun _ h_=>h_.1))))) (Kd.bK (by (with_reducible repeat (first|apply Kd.b_|apply Kd.bZ|apply Kd.bP));exact (Kd.aT (gR 1 (.slice aob t166.length an8) (gR 0 (.int .i64 t165) (tR bQ b7))) (fun _ h_=>h_.1))))) (anG bl));replace aE:=k0 (Kd.cQ (by (with_reducible repeat (first|apply Kd.b_|apply Kd.bZ|apply Kd.bP));exact (Kd.aT (gR 1 (.slice aob t166.length an8) (gR 0 (.int .i64 t165) (tR aE b7))) (fun _ h_=>h_.1))) (Kd.aU aq) hb);replace bQ:=k0 (Kd.cQ (by (with_reducible repeat (first|apply Kd.b_|apply Kd.bZ|apply Kd.bP));exact (Kd.aT (gR 1 (.slice aob t166.length an8) (gR 0 (.int .i64 t165) (tR bQ b7))) (fun _ h_=>h_.1))) (Kd.aU aq) hb);replace aJ:=k0 (cB (g:=bW) (o:=sO t102 eG t103 dZ 31) (by (with_reducible repeat (first|refine anF ?_ _|refine aH ?_|refine aI ?_ _));refine anU ?_ ia.z _;(with_reducible repeat (first|refine anF ?_ _|refine aH ?_|refine aI ?_ _));refine anU ?_ ia.z _;exact bk) hb);replace aZ:=k0 (cB (g:=cr) (o:=sO t116 an2 t117 dA 31) (by (with_reducible repeat (first|refine anF ?_ _|refine aH ?_|refine aI ?_ _));refine anU ?_ ic.z _;(with_reducible repeat (first|refine anF ?_ _|refine aH ?_|refine aI ?_ _));refine anU ?_ ic.z _;exact bk) hb);replace anN:=k0 (cB (g:=cj) (o:=sO t130 d_ t131 dQ 31) (by (with_reducible repeat (first|refine anF ?_ _|refine aH ?_|refine aI ?_ _));refine anU ?_ ie.z _;(with_reducible repeat (first|refine anF ?_ _|refine aH ?_|refine aI ?_ _));refine anU ?_ ie.z _;exact bk) hb);replace b7:=k0 (cB (g:=bC) (o:=sO t165 aob t166 an8 31) (by (with_reducible repeat (first|refine anF ?_ _|refine aH ?_|refine aI ?_ _));refine anV (cs:=#[.int .i64 t165,.slice none 0 0]) ?_ 1 _ rfl;(with_reducible repeat (first|refine anF ?_ _|refine aH ?_|refine aI ?_ _));refine anV (cs:=#[.int .i64 0,.slice none 0 0]) ?_ 0 _ rfl;exact bk) hb);replace HB:=k0 (anH bl hb);));try go_wp2_with (first|(go_at_call 51;(with_reducible refine (eM.calls k8 t102 _ _ t103 _ _ iG t165 t166 t169 _ ?aA ?anD ?cP ?dB tW.z).mono ?_);(case aA=>exact aC ((Kd.cN anL.z).2.2));(case anD=>exact (Kd.cN anL.z).2.1);(case cP=>exact aC ((Kd.anT bQ.z).2.2));(case dB=>exact (Kd.anT bQ.z).2.1);rintro e TS ⟨v167,rfl,aq,hb⟩;have av:=k0 (Kd.dg (aR aE.z) hb);have ax:=k0 (Kd.dg (aR bQ.z) hb);have ay:=k0 (Kd.b8 (aV anL.z) (Kd.an_ aq) hb);have anC:=k0 (Kd.b8 (aV bw.z) (Kd.an_ aq) hb);have aD:=k0 (Kd.b8 (aV bM.z) (Kd.an_ aq) hb);have anE:=k0 (Kd.gD (Kd.jy (Kd.jy aq (Kd.bK (aR aE.z))) (Kd.bK (aR bQ.z))) (anG bl));have anP:=kB aJ hb;have bL:=kB aZ hb;have b6:=kB anN hb;have cM:=k0 (anH bl hb);clear aE;clear bQ;clear anL;clear bw;clear bM;clear aJ;clear aZ;clear anN;clear HB;have aE:=av;have bQ:=ax;have anL:=ay;have bw:=anC;have bM:=aD;have cJ:=anE;have aJ:=anP;have aZ:=bL;have anN:=b6;have HB:=cM;clear av ax ay anC aD anE anP bL b6 cM;)|((with_reducible refine bN (N:=26) rfl ?_);(try (refine fV (by rfl) ?_;dsimp only));refine cE 26 #[.int .i64 0,.slice none 0 0] 31 ?_;intro bC hg TT aG hb;have av:=k0 (Kd.dg (aR aE.z) hb);have ax:=k0 (Kd.dg (aR bQ.z) hb);have ay:=k0 (Kd.dz (Kd.ej (aV anL.z) bC (Nat.le_of_eq hg.symm)) hb);have anC:=k0 (Kd.dz (Kd.ej (aV bw.z) bC (Nat.le_of_eq hg.symm)) hb);have aD:=k0 (Kd.dz (Kd.ej (aV bM.z) bC (Nat.le_of_eq hg.symm)) hb);have anE:=k0 (Kd.kn (aS cJ.z) hb);have anP:=kB aJ hb;have bL:=kB aZ hb;have b6:=kB anN hb;have cM:=k0 (anH bl hb);have fe:=k0 (aG);have gp:=k0 ((by rw [hg];exact (anG bl):w.heap.size≤bC));have gB:=k0 ((by rw [hg];exact (anG bl):w.heap.size≤bC));have fk:=nL hg aJ;have iq:=nG fk;have ir:=nL hg aZ;have aok:=nG ir;have iu:=nL hg anN;have aol:=nG iu;clear aE;clear bQ;clear anL;clear bw;clear bM;clear cJ;clear aJ;clear aZ;clear anN;clear HB;have aE:=av;have bQ:=ax;have anL:=ay;have bw:=anC;have bM:=aD;have cJ:=anE;have aJ:=anP;have aZ:=bL;have anN:=b6;have HB:=cM;have b7:=fe;have vG:=gp;have vF:=gB;have ia:=fk;have nS:=iq;have ic:=ir;have nT:=aok;have ie:=iu;have nU:=aol;clear av ax ay anC aD anE anP bL b6 cM fe gp gB fk iq ir aok iu aol;clear hb aG hg;have Rx:=nS.z;have RQ:=ia.z;have Ry:=nT.z;have RR:=ic.z;have Rz:=nU.z;have RS:=ie.z;have Qi:=aX b7;have Qj:=aY b7;have QG:=bF b7 0;have QH:=bF b7 1;obtain ⟨aob,an8,Co⟩:=Kd.eH cJ.z;subst Co)|(go_at_call 42;(with_reducible refine (dG.calls k8 t165 _ _ t166 t171 t174 _ ?aA ?anD qV.z).mono ?_);(case aA=>first|(refine (Kd.anY (e:=28) (base:=w.heap.size) (ok:=fun k_=>((True∧some k_ ≠ (cw:Value).ownBlock)∧some k_ ≠ (.slice zy iG.length Ap:Value).ownBlock)) (n:=t166.length) (c:=an8) ?_).2.2;exact (by (with_reducible repeat (first|apply Kd.di|apply Kd.dm|apply Kd.cS));exact (Kd.anW (gS 1 (.slice aob t166.length an8) (gS 0 (.int .i64 t165) (tS cJ b7))) (fun _ h_=>h_.1))))|(refine (Kd.anY (e:=28) (base:=w.heap.size) (ok:=fun k_=>(some k_ ≠ (cw:Value).ownBlock∧some k_ ≠ (.slice zy iG.length Ap:Value).ownBlock)) (n:=t166.length) (c:=an8) ?_).2.2;exact (by (with_reducible repeat (first|apply Kd.di|apply Kd.dm|apply Kd.cS));exact (Kd.anW (gS 1 (.slice aob t166.length an8) (gS 0 (.int .i64 t165) (tS cJ b7))) (fun _ h_=>h_.1)))));(case anD=>exact (Kd.anY cJ.z).2.1);rintro e TU ⟨wO,rfl,aq,hb⟩;replace anL:=k0 (Kd.b8 (by (with_reducible repeat (first|apply Kd.cW|apply Kd.cX|apply Kd.cV));exact (Kd.anJ (Kd.bG (p:=⟨bC,1,none⟩) (Kd.bG (p:=⟨bC,0,none⟩) (Kd.anJ anL.z (fun k_ hk=>(⟨hk,hk.2⟩:_∧k_ ≠ bC))) (fun _ hk=>hk.2) (.int .i64 t165)) (fun _ hk=>hk.2) (.slice aob t166.length an8)) (fun _ h_=>h_.1))) (Kd.aU aq) hb);replace bw:=k0 (Kd.b8 (by (with_reducible repeat (first|apply Kd.cW|apply Kd.cX|apply Kd.cV));exact (Kd.anJ (Kd.bG (p:=⟨bC,1,none⟩) (Kd.bG (p:=⟨bC,0,none⟩) (Kd.anJ bw.z (fun k_ hk=>(⟨hk,hk.2⟩:_∧k_ ≠ bC))) (fun _ hk=>hk.2) (.int .i64 t165)) (fun _ hk=>hk.2) (.slice aob t166.length an8)) (fun _ h_=>h_.1))) (Kd.aU aq) hb);replace bM:=k0 (Kd.b8 (by (with_reducible repeat (first|apply Kd.cW|apply Kd.cX|apply Kd.cV));exact (Kd.anJ (Kd.bG (p:=⟨bC,1,none⟩) (Kd.bG (p:=⟨bC,0,none⟩) (Kd.anJ bM.z (fun k_ hk=>(⟨hk,hk.2⟩:_∧k_ ≠ bC))) (fun _ hk=>hk.2) (.int .i64 t165)) (fun _ hk=>hk.2) (.slice aob t166.length an8)) (fun _ h_=>h_.1))) (Kd.aU aq) hb);replace cJ:=k0 (Kd.an6 (by (with_reducible repeat (first|apply Kd.di|apply Kd.dm|apply Kd.cS));exact (Kd.anW (gS 1 (.slice aob t166.length an8) (gS 0 (.int .i64 t165) (tS cJ b7))) (fun _ h_=>h_.1))) (Kd.aU aq) hb);have nO:=k0 (Kd.cH (Kd.cR (Kd.cR aq (Kd.bK (by (with_reducible repeat (first|apply Kd.b_|apply Kd.bZ|apply Kd.bP));exact (Kd.aT (gR 1 (.slice aob t166.length an8) (gR 0 (.int .i64 t165) (tR aE b7))) (fun _ h_=>h_.1))))) (Kd.bK (by (with_reducible repeat (first|apply Kd.b_|apply Kd.bZ|apply Kd.bP));exact (Kd.aT (gR 1 (.slice aob t166.length an8) (gR 0 (.int .i64 t165) (tR bQ b7))) (fun _ h_=>h_.1))))) (anG bl));replace aE:=k0 (Kd.cQ (by (with_reducible repeat (first|apply Kd.b_|apply Kd.bZ|apply Kd.bP));exact (Kd.aT (gR 1 (.slice aob t166.length an8) (gR 0 (.int .i64 t165) (tR aE b7))) (fun _ h_=>h_.1))) (Kd.aU aq) hb);replace bQ:=k0 (Kd.cQ (by (with_reducible repeat (first|apply Kd.b_|apply Kd.bZ|apply Kd.bP));exact (Kd.aT (gR 1 (.slice aob t166.length an8) (gR 0 (.int .i64 t165) (tR bQ b7))) (fun _ h_=>h_.1))) (Kd.aU aq) hb);replace aJ:=k0 (cB (g:=bW) (o:=sO t102 eG t103 dZ 31) (by (with_reducible repeat (first|refine anF ?_ _|refine aH ?_|refine aI ?_ _));refine anU ?_ ia.z _;(with_reducible repeat (first|refine anF ?_ _|refine aH ?_|refine aI ?_ _));refine anU ?_ ia.z _;exact bk) hb);replace aZ:=k0 (cB (g:=cr) (o:=sO t116 an2 t117 dA 31) (by (with_reducible repeat (first|refine anF ?_ _|refine aH ?_|refine aI ?_ _));refine anU ?_ ic.z _;(with_reducible repeat (first|refine anF ?_ _|refine aH ?_|refine aI ?_ _));refine anU ?_ ic.z _;exact bk) hb);replace anN:=k0 (cB (g:=cj) (o:=sO t130 d_ t131 dQ 31) (by (with_reducible repeat (first|refine anF ?_ _|refine aH ?_|refine aI ?_ _));refine anU ?_ ie.z _;(with_reducible repeat (first|refine anF ?_ _|refine aH ?_|refine aI ?_ _));refine anU ?_ ie.z _;exact bk) hb);replace b7:=k0 (cB (g:=bC) (o:=sO t165 aob t166 an8 31) (by (with_reducible repeat (first|refine anF ?_ _|refine aH ?_|refine aI ?_ _));refine anV (cs:=#[.int .i64 t165,.slice none 0 0]) ?_ 1 _ rfl;(with_reducible repeat (first|refine anF ?_ _|refine aH ?_|refine aI ?_ _));refine anV (cs:=#[.int .i64 0,.slice none 0 0]) ?_ 0 _ rfl;exact bk) hb);replace HB:=k0 (anH bl hb);)))
                         go_ret
                         exact ⟨eR,bl⟩
                        rw [if_pos c151] at H
                        have XM:(t169 == 0)=true:=beq_iff_eq.mpr c151
                        have XN:(t169 != 0)=false:=bne_eq_false_iff_eq.mpr c151
                        clear c151
                        by_cases c152:t174=0
                        case neg =>
                         rw [if_neg c152] at H
                         have XO:(t174 == 0)=false:=beq_eq_false_iff_ne.mpr c152
                         have XP:(t174 != 0)=true:=bne_iff_ne.mpr c152
                         obtain rfl:=Option.some.inj H
                         have ak8:=l7.z
                         have al3:=rU.z
                         have ak9:=jW.z
                         have al4:=l8.z
                         have aij:=aX aJ
                         have aik:=aY aJ
                         have ajK:=bF aJ 0
                         have ajL:=bF aJ 1
                         obtain ⟨zx,Ao,Zn⟩:=Kd.cK bQ.z
                         subst Zn
                         go_wp2_with (first|(go_at_call 51;(with_reducible refine (eM.calls k8 t102 _ _ t103 _ _ iG t165 t166 t169 _ ?aA ?anD ?cP ?dB tW.z).mono ?_);(case aA=>exact aC ((Kd.cN anL.z).2.2));(case anD=>exact (Kd.cN anL.z).2.1);(case cP=>exact aC ((Kd.anT bQ.z).2.2));(case dB=>exact (Kd.anT bQ.z).2.1);rintro e TN ⟨v167,rfl,aq,hb⟩;have av:=k0 (Kd.dg (aR aE.z) hb);have ax:=k0 (Kd.dg (aR bQ.z) hb);have ay:=k0 (Kd.b8 (aV anL.z) (Kd.an_ aq) hb);have anC:=k0 (Kd.b8 (aV bw.z) (Kd.an_ aq) hb);have aD:=k0 (Kd.b8 (aV bM.z) (Kd.an_ aq) hb);have anE:=k0 (Kd.gD (Kd.jy (Kd.jy aq (Kd.bK (aR aE.z))) (Kd.bK (aR bQ.z))) (anG bl));have anP:=kB aJ hb;have bL:=kB aZ hb;have b6:=kB anN hb;have cM:=k0 (anH bl hb);clear aE;clear bQ;clear anL;clear bw;clear bM;clear aJ;clear aZ;clear anN;clear HB;have aE:=av;have bQ:=ax;have anL:=ay;have bw:=anC;have bM:=aD;have cJ:=anE;have aJ:=anP;have aZ:=bL;have anN:=b6;have HB:=cM;clear av ax ay anC aD anE anP bL b6 cM;)|((with_reducible refine bN (N:=26) rfl ?_);(try (refine fV (by rfl) ?_;dsimp only));refine cE 26 #[.int .i64 0,.slice none 0 0] 31 ?_;intro bC hg TP aG hb;have av:=k0 (Kd.dg (aR aE.z) hb);have ax:=k0 (Kd.dg (aR bQ.z) hb);have ay:=k0 (Kd.dz (Kd.ej (aV anL.z) bC (Nat.le_of_eq hg.symm)) hb);have anC:=k0 (Kd.dz (Kd.ej (aV bw.z) bC (Nat.le_of_eq hg.symm)) hb);have aD:=k0 (Kd.dz (Kd.ej (aV bM.z) bC (Nat.le_of_eq hg.symm)) hb);have anE:=k0 (Kd.kn (aS cJ.z) hb);have anP:=kB aJ hb;have bL:=kB aZ hb;have b6:=kB anN hb;have cM:=k0 (anH bl hb);have fe:=k0 (aG);have gp:=k0 ((by rw [hg];exact (anG bl):w.heap.size≤bC));have gB:=k0 ((by rw [hg];exact (anG bl):w.heap.size≤bC));have fk:=nL hg aJ;have iq:=nG fk;have ir:=nL hg aZ;have aok:=nG ir;have iu:=nL hg anN;have aol:=nG iu;clear aE;clear bQ;clear anL;clear bw;clear bM;clear cJ;clear aJ;clear aZ;clear anN;clear HB;have aE:=av;have bQ:=ax;have anL:=ay;have bw:=anC;have bM:=aD;have cJ:=anE;have aJ:=anP;have aZ:=bL;have anN:=b6;have HB:=cM;have b7:=fe;have vG:=gp;have vF:=gB;have ia:=fk;have nS:=iq;have ic:=ir;have nT:=aok;have ie:=iu;have nU:=aol;clear av ax ay anC aD anE anP bL b6 cM fe gp gB fk iq ir aok iu aol;clear hb aG hg;have Ru:=nS.z;have RN:=ia.z;have Rv:=nT.z;have ap':=ic.z;have Rw:=nU.z;have RP:=ie.z;have Qg:=aX b7;have Qh:=aY b7;have QE:=bF b7 0;have QF:=bF b7 1;obtain ⟨gZ,an7,Cn⟩:=Kd.eH cJ.z;subst Cn)|(go_at_call 42;(with_reducible refine (dG.calls k8 t165 _ _ t166 t171 t174 _ ?aA ?anD qV.z).mono ?_);(case aA=>first|(refine (Kd.anY (e:=28) (base:=w.heap.size) (ok:=fun k_=>((True∧some k_ ≠ (cw:Value).ownBlock)∧some k_ ≠ (.slice zx iG.length Ao:Value).ownBlock)) (n:=t166.length) (c:=an7) ?_).2.2;exact (by (with_reducible repeat (first|apply Kd.di|apply Kd.dm|apply Kd.cS));exact (Kd.anW (gS 1 (.slice gZ t166.length an7) (gS 0 (.int .i64 t165) (tS cJ b7))) (fun _ h_=>h_.1))))|(refine (Kd.anY (e:=28) (base:=w.heap.size) (ok:=fun k_=>(some k_ ≠ (cw:Value).ownBlock∧some k_ ≠ (.slice zx iG.length Ao:Value).ownBlock)) (n:=t166.length) (c:=an7) ?_).2.2;exact (by (with_reducible repeat (first|apply Kd.di|apply Kd.dm|apply Kd.cS));exact (Kd.anW (gS 1 (.slice gZ t166.length an7) (gS 0 (.int .i64 t165) (tS cJ b7))) (fun _ h_=>h_.1)))));(case anD=>exact (Kd.anY cJ.z).2.1);rintro e TQ ⟨wO,rfl,aq,hb⟩;replace anL:=k0 (Kd.b8 (by (with_reducible repeat (first|apply Kd.cW|apply Kd.cX|apply Kd.cV));exact (Kd.anJ (Kd.bG (p:=⟨bC,1,none⟩) (Kd.bG (p:=⟨bC,0,none⟩) (Kd.anJ anL.z (fun k_ hk=>(⟨hk,hk.2⟩:_∧k_ ≠ bC))) (fun _ hk=>hk.2) (.int .i64 t165)) (fun _ hk=>hk.2) (.slice gZ t166.length an7)) (fun _ h_=>h_.1))) (Kd.aU aq) hb);replace bw:=k0 (Kd.b8 (by (with_reducible repeat (first|apply Kd.cW|apply Kd.cX|apply Kd.cV));exact (Kd.anJ (Kd.bG (p:=⟨bC,1,none⟩) (Kd.bG (p:=⟨bC,0,none⟩) (Kd.anJ bw.z (fun k_ hk=>(⟨hk,hk.2⟩:_∧k_ ≠ bC))) (fun _ hk=>hk.2) (.int .i64 t165)) (fun _ hk=>hk.2) (.slice gZ t166.length an7)) (fun _ h_=>h_.1))) (Kd.aU aq) hb);replace bM:=k0 (Kd.b8 (by (with_reducible repeat (first|apply Kd.cW|apply Kd.cX|apply Kd.cV));exact (Kd.anJ (Kd.bG (p:=⟨bC,1,none⟩) (Kd.bG (p:=⟨bC,0,none⟩) (Kd.anJ bM.z (fun k_ hk=>(⟨hk,hk.2⟩:_∧k_ ≠ bC))) (fun _ hk=>hk.2) (.int .i64 t165)) (fun _ hk=>hk.2) (.slice gZ t166.length an7)) (fun _ h_=>h_.1))) (Kd.aU aq) hb);replace cJ:=k0 (Kd.an6 (by (with_reducible repeat (first|apply Kd.di|apply Kd.dm|apply Kd.cS));exact (Kd.anW (gS 1 (.slice gZ t166.length an7) (gS 0 (.int .i64 t165) (tS cJ b7))) (fun _ h_=>h_.1))) (Kd.aU aq) hb);have nO:=k0 (Kd.cH (Kd.cR (Kd.cR aq (Kd.bK (by (with_reducible repeat (first|apply Kd.b_|apply Kd.bZ|apply Kd.bP));exact (Kd.aT (gR 1 (.slice gZ t166.length an7) (gR 0 (.int .i64 t165) (tR aE b7))) (fun _ h_=>h_.1))))) (Kd.bK (by (with_reducible repeat (first|apply Kd.b_|apply Kd.bZ|apply Kd.bP));exact (Kd.aT (gR 1 (.slice gZ t166.length an7) (gR 0 (.int .i64 t165) (tR bQ b7))) (fun _ h_=>h_.1))))) (anG bl));replace aE:=k0 (Kd.cQ (by (with_reducible repeat (first|apply Kd.b_|apply Kd.bZ|apply Kd.bP));exact (Kd.aT (gR 1 (.slice gZ t166.length an7) (gR 0 (.int .i64 t165) (tR aE b7))) (fun _ h_=>h_.1))) (Kd.aU aq) hb);replace bQ:=k0 (Kd.cQ (by (with_reducible repeat (first|apply Kd.b_|apply Kd.bZ|apply Kd.bP));exact (Kd.aT (gR 1 (.slice gZ t166.length an7) (gR 0 (.int .i64 t165) (tR bQ b7))) (fun _ h_=>h_.1))) (Kd.aU aq) hb);replace aJ:=k0 (cB (g:=bW) (o:=sO t102 eG t103 dZ 31) (by (with_reducible repeat (first|refine anF ?_ _|refine aH ?_|refine aI ?_ _));refine anU ?_ ia.z _;(with_reducible repeat (first|refine anF ?_ _|refine aH ?_|refine aI ?_ _));refine anU ?_ ia.z _;exact bk) hb);replace aZ:=k0 (cB (g:=cr) (o:=sO t116 an2 t117 dA 31) (by (with_reducible repeat (first|refine anF ?_ _|refine aH ?_|refine aI ?_ _));refine anU ?_ ic.z _;(with_reducible repeat (first|refine anF ?_ _|refine aH ?_|refine aI ?_ _));refine anU ?_ ic.z _;exact bk) hb);replace anN:=k0 (cB (g:=cj) (o:=sO t130 d_ t131 dQ 31) (by (with_reducible repeat (first|refine anF ?_ _|refine aH ?_|refine aI ?_ _));refine anU ?_ ie.z _;(with_reducible repeat (first|refine anF ?_ _|refine aH ?_|refine aI ?_ _));refine anU ?_ ie.z _;exact bk) hb);replace b7:=k0 (cB (g:=bC) (o:=sO t165 gZ t166 an7 31) (by (with_reducible repeat (first|refine anF ?_ _|refine aH ?_|refine aI ?_ _));refine anV (cs:=#[.int .i64 t165,.slice none 0 0]) ?_ 1 _ rfl;(with_reducible repeat (first|refine anF ?_ _|refine aH ?_|refine aI ?_ _));refine anV (cs:=#[.int .i64 0,.slice none 0 0]) ?_ 0 _ rfl;exact bk) hb);replace HB:=k0 (anH bl hb);))
                         repeat (go_quiet (first|(go_at_call 51;(with_reducible refine (eM.calls k8 t102 _ _ t103 _ _ iG t165 t166 t169 _ ?aA ?anD ?cP ?dB tW.z).mono ?_);(case aA=>exact aC ((Kd.cN anL.z).2.2));(case anD=>exact (Kd.cN anL.z).2.1);(case cP=>exact aC ((Kd.anT bQ.z).2.2));(case dB=>exact (Kd.anT bQ.z).2.1);rintro e TN ⟨v167,rfl,aq,hb⟩;have av:=k0 (Kd.dg (aR aE.z) hb);have ax:=k0 (Kd.dg (aR bQ.z) hb);have ay:=k0 (Kd.b8 (aV anL.z) (Kd.an_ aq) hb);have anC:=k0 (Kd.b8 (aV bw.z) (Kd.an_ aq) hb);have aD:=k0 (Kd.b8 (aV bM.z) (Kd.an_ aq) hb);have anE:=k0 (Kd.gD (Kd.jy (Kd.jy aq (Kd.bK (aR aE.z))) (Kd.bK (aR bQ.z))) (anG bl));have anP:=kB aJ hb;have bL:=kB aZ hb;have b6:=kB anN hb;have cM:=k0 (anH bl hb);clear aE;clear bQ;clear anL;clear bw;clear bM;clear aJ;clear aZ;clear anN;clear HB;have aE:=av;have bQ:=ax;have anL:=ay;have bw:=anC;have bM:=aD;have cJ:=anE;have aJ:=anP;have aZ:=bL;have anN:=b6;have HB:=cM;clear av ax ay anC aD anE anP bL b6 cM;)|((with_reducible refine bN (N:=26) rfl ?_);(try (refine fV (by rfl) ?_;dsimp only));refine cE 26 #[.int .i64 0,.slice none 0 0] 31 ?_;intro bC hg TP aG hb;have av:=k0 (Kd.dg (aR aE.z) hb);have ax:=k0 (Kd.dg (aR bQ.z) hb);have ay:=k0 (Kd.dz (Kd.ej (aV anL.z) bC (Nat.le_of_eq hg.symm)) hb);have anC:=k0 (Kd.dz (Kd.ej (aV bw.z) bC (Nat.le_of_eq hg.symm)) hb);have aD:=k0 (Kd.dz (Kd.ej (aV bM.z) bC (Nat.le_of_eq hg.symm)) hb);have anE:=k0 (Kd.kn (aS cJ.z) hb);have anP:=kB aJ hb;have bL:=kB aZ hb;have b6:=kB anN hb;have cM:=k0 (anH bl hb);have fe:=k0 (aG);have gp:=k0 ((by rw [hg];exact (anG bl):w.heap.size≤bC));have gB:=k0 ((by rw [hg];exact (anG bl):w.heap.size≤bC));have fk:=nL hg aJ;have iq:=nG fk;have ir:=nL hg aZ;have aok:=nG ir;have iu:=nL hg anN;have aol:=nG iu;clear aE;clear bQ;clear anL;clear bw;clear bM;clear cJ;clear aJ;clear aZ;clear anN;clear HB;have aE:=av;have bQ:=ax;have anL:=ay;have bw:=anC;have bM:=aD;have cJ:=anE;have aJ:=anP;have aZ:=bL;have anN:=b6;have HB:=cM;have b7:=fe;have vG:=gp;have vF:=gB;have ia:=fk;have nS:=iq;have ic:=ir;have nT:=aok;have ie:=iu;have nU:=aol;clear av ax ay anC aD anE anP bL b6 cM fe gp gB fk iq ir aok iu aol;clear hb aG hg;have Ru:=nS.z;have RN:=ia.z;have Rv:=nT.z;have ap':=ic.z;have Rw:=nU.z;have RP:=ie.z;have Qg:=aX b7;have Qh:=aY b7;have QE:=bF b7 0;have QF:=bF b7 1;obtain ⟨gZ,an7,Cn⟩:=Kd.eH cJ.z;subst Cn)|(go_at_call 42;(with_reducible refine (dG.calls k8 t165 _ _ t166 t171 t174 _ ?aA ?anD qV.z).mono ?_);(case aA=>first|(refine (Kd.anY (e:=28) (base:=w.heap.size) (ok:=fun k_=>((True∧some k_ ≠ (cw:Value).ownBlock)∧some k_ ≠ (.slice zx iG.length Ao:Value).ownBlock)) (n:=t166.length) (c:=an7) ?_).2.2;exact (by (with_reducible repeat (first|apply Kd.di|apply Kd.dm|apply Kd.cS));exact (Kd.anW (gS 1 (.slice gZ t166.length an7) (gS 0 (.int .i64 t165) (tS cJ b7))) (fun _ h_=>h_.1))))|(refine (Kd.anY (e:=28) (base:=w.heap.size) (ok:=fun k_=>(some k_ ≠ (cw:Value).ownBlock∧some k_ ≠ (.slice zx iG.length Ao:Value).ownBlock)) (n:=t166.length) (c:=an7) ?_).2.2;exact (by (with_reducible repeat (first|apply Kd.di|apply Kd.dm|apply Kd.cS));exact (Kd.anW (gS 1 (.slice gZ t166.length an7) (gS 0 (.int .i64 t165) (tS cJ b7))) (fun _ h_=>h_.1)))));(case anD=>exact (Kd.anY cJ.z).2.1);rintro e TQ ⟨wO,rfl,aq,hb⟩;replace anL:=k0 (Kd.b8 (by (with_reducible repeat (first|apply Kd.cW|apply Kd.cX|apply Kd.cV));exact (Kd.anJ (Kd.bG (p:=⟨bC,1,none⟩) (Kd.bG (p:=⟨bC,0,none⟩) (Kd.anJ anL.z (fun k_ hk=>(⟨hk,hk.2⟩:_∧k_ ≠ bC))) (fun _ hk=>hk.2) (.int .i64 t165)) (fun _ hk=>hk.2) (.slice gZ t166.length an7)) (fun _ h_=>h_.1))) (Kd.aU aq) hb);replace bw:=k0 (Kd.b8 (by (with_reducible repeat (first|apply Kd.cW|apply Kd.cX|apply Kd.cV));exact (Kd.anJ (Kd.bG (p:=⟨bC,1,none⟩) (Kd.bG (p:=⟨bC,0,none⟩) (Kd.anJ bw.z (fun k_ hk=>(⟨hk,hk.2⟩:_∧k_ ≠ bC))) (fun _ hk=>hk.2) (.int .i64 t165)) (fun _ hk=>hk.2) (.slice gZ t166.length an7)) (fun _ h_=>h_.1))) (Kd.aU aq) hb);replace bM:=k0 (Kd.b8 (by (with_reducible repeat (first|apply Kd.cW|apply Kd.cX|apply Kd.cV));exact (Kd.anJ (Kd.bG (p:=⟨bC,1,none⟩) (Kd.bG (p:=⟨bC,0,none⟩) (Kd.anJ bM.z (fun k_ hk=>(⟨hk,hk.2⟩:_∧k_ ≠ bC))) (fun _ hk=>hk.2) (.int .i64 t165)) (fun _ hk=>hk.2) (.slice gZ t166.length an7)) (fun _ h_=>h_.1))) (Kd.aU aq) hb);replace cJ:=k0 (Kd.an6 (by (with_reducible repeat (first|apply Kd.di|apply Kd.dm|apply Kd.cS));exact (Kd.anW (gS 1 (.slice gZ t166.length an7) (gS 0 (.int .i64 t165) (tS cJ b7))) (fun _ h_=>h_.1))) (Kd.aU aq) hb);have nO:=k0 (Kd.cH (Kd.cR (Kd.cR aq (Kd.bK (by (with_reducible repeat (first|apply Kd.b_|apply Kd.bZ|apply Kd.bP));exact (Kd.aT (gR 1 (.slice gZ t166.length an7) (gR 0 (.int .i64 t165) (tR aE b7))) (fun _ h_=>h_.1))))) (Kd.bK (by (with_reducible repeat (first|apply Kd.b_|apply Kd.bZ|apply Kd.bP));exact (Kd.aT (gR 1 (.slice gZ t166.length an7) (gR 0 (.int .i64 t165) (tR bQ b7))) (fun _ h_=>h_.1))))) (anG bl));replace aE:=k0 (Kd.cQ (by (with_reducible repeat (first|apply Kd.b_|apply Kd.bZ|apply Kd.bP));exact (Kd.aT (gR 1 (.slice gZ t166.length an7) (gR 0 (.int .i64 t165) (tR aE b7))) (fun _ h_=>h_.1))) (Kd.aU aq) hb);replace bQ:=k0 (Kd.cQ (by (with_reducible repeat (first|apply Kd.b_|apply Kd.bZ|apply Kd.bP));exact (Kd.aT (gR 1 (.slice gZ t166.length an7) (gR 0 (.int .i64 t165) (tR bQ b7))) (fun _ h_=>h_.1))) (Kd.aU aq) hb);replace aJ:=k0 (cB (g:=bW) (o:=sO t102 eG t103 dZ 31) (by (with_reducible repeat (first|refine anF ?_ _|refine aH ?_|refine aI ?_ _));refine anU ?_ ia.z _;(with_reducible repeat (first|refine anF ?_ _|refine aH ?_|refine aI ?_ _));refine anU ?_ ia.z _;exact bk) hb);replace aZ:=k0 (cB (g:=cr) (o:=sO t116 an2 t117 dA 31) (by (with_reducible repeat (first|refine anF ?_ _|refine aH ?_|refine aI ?_ _));refine anU ?_ ic.z _;(with_reducible repeat (first|refine anF ?_ _|refine aH ?_|refine aI ?_ _));refine anU ?_ ic.z _;exact bk) hb);replace anN:=k0 (cB (g:=cj) (o:=sO t130 d_ t131 dQ 31) (by (with_reducible repeat (first|refine anF ?_ _|refine aH ?_|refine aI ?_ _));refine anU ?_ ie.z _;(with_reducible repeat (first|refine anF ?_ _|refine aH ?_|refine aI ?_ _));refine anU ?_ ie.z _;exact bk) hb);replace b7:=k0 (cB (g:=bC) (o:=sO t165 gZ t166 an7 31) (by (with_reducible repeat (first|refine anF ?_ _|refine aH ?_|refine aI ?_ _));refine anV (cs:=#[.int .i64 t165,.slice none 0 0]) ?_ 1 _ rfl;(with_reducible repeat (first|refine anF ?_ _|refine aH ?_|refine aI ?_ _));refine anV (cs:=#[.int .i64 0,.slice none 0 0]) ?_ 0 _ rfl;exact bk) hb);replace HB:=k0 (anH bl hb);));try go_wp2_with (first|(go_at_call 51;(with_reducible refine (eM.calls k8 t102 _ _ t103 _ _ iG t165 t166 t169 _ ?aA ?anD ?cP ?dB tW.z).mono ?_);(case aA=>exact aC ((Kd.cN anL.z).2.2));(case anD=>exact (Kd.cN anL.z).2.1);(case cP=>exact aC ((Kd.anT bQ.z).2.2));(case dB=>exact (Kd.anT bQ.z).2.1);rintro e TN ⟨v167,rfl,aq,hb⟩;have av:=k0 (Kd.dg (aR aE.z) hb);have ax:=k0 (Kd.dg (aR bQ.z) hb);have ay:=k0 (Kd.b8 (aV anL.z) (Kd.an_ aq) hb);have anC:=k0 (Kd.b8 (aV bw.z) (Kd.an_ aq) hb);have aD:=k0 (Kd.b8 (aV bM.z) (Kd.an_ aq) hb);have anE:=k0 (Kd.gD (Kd.jy (Kd.jy aq (Kd.bK (aR aE.z))) (Kd.bK (aR bQ.z))) (anG bl));have anP:=kB aJ hb;have bL:=kB aZ hb;have b6:=kB anN hb;have cM:=k0 (anH bl hb);clear aE;clear bQ;clear anL;clear bw;clear bM;clear aJ;clear aZ;clear anN;clear HB;have aE:=av;have bQ:=ax;have anL:=ay;have bw:=anC;have bM:=aD;have cJ:=anE;have aJ:=anP;have aZ:=bL;have anN:=b6;have HB:=cM;clear av ax ay anC aD anE anP bL b6 cM;)|((with_reducible refine bN (N:=26) rfl ?_);(try (refine fV (by rfl) ?_;dsimp only));refine cE 26 #[.int .i64 0,.slice none 0 0] 31 ?_;intro bC hg TP aG hb;have av:=k0 (Kd.dg (aR aE.z) hb);have ax:=k0 (Kd.dg (aR bQ.z) hb);have ay:=k0 (Kd.dz (Kd.ej (aV anL.z) bC (Nat.le_of_eq hg.symm)) hb);have anC:=k0 (Kd.dz (Kd.ej (aV bw.z) bC (Nat.le_of_eq hg.symm)) hb);have aD:=k0 (Kd.dz (Kd.ej (aV bM.z) bC (Nat.le_of_eq hg.symm)) hb);have anE:=k0 (Kd.kn (aS cJ.z) hb);have anP:=kB aJ hb;have bL:=kB aZ hb;have b6:=kB anN hb;have cM:=k0 (anH bl hb);have fe:=k0 (aG);have gp:=k0 ((by rw [hg];exact (anG bl):w.heap.size≤bC));have gB:=k0 ((by rw [hg];exact (anG bl):w.heap.size≤bC));have fk:=nL hg aJ;have iq:=nG fk;have ir:=nL hg aZ;have aok:=nG ir;have iu:=nL hg anN;have aol:=nG iu;clear aE;clear bQ;clear anL;clear bw;clear bM;clear cJ;clear aJ;clear aZ;clear anN;clear HB;have aE:=av;have bQ:=ax;have anL:=ay;have bw:=anC;have bM:=aD;have cJ:=anE;have aJ:=anP;have aZ:=bL;have anN:=b6;have HB:=cM;have b7:=fe;have vG:=gp;have vF:=gB;have ia:=fk;have nS:=iq;have ic:=ir;have nT:=aok;have ie:=iu;have nU:=aol;clear av ax ay anC aD anE anP bL b6 cM fe gp gB fk iq ir aok iu aol;clear hb aG hg;have Ru:=nS.z;have RN:=ia.z;have Rv:=nT.z;have ap':=ic.z;have Rw:=nU.z;have RP:=ie.z;have Qg:=aX b7;have Qh:=aY b7;have QE:=bF b7 0;have QF:=bF b7 1;obtain ⟨gZ,an7,Cn⟩:=Kd.eH cJ.z;subst Cn)|(go_at_call 42;(with_reducible refine (dG.calls k8 t165 _ _ t166 t171 t174 _ ?aA ?anD qV.z).mono ?_);(case aA=>first|(refine (Kd.anY (e:=28) (base:=w.heap.size) (ok:=fun k_=>((True∧some k_ ≠ (cw:Value).ownBlock)∧some k_ ≠ (.slice zx iG.length Ao:Value).ownBlock)) (n:=t166.length) (c:=an7) ?_).2.2;exact (by (with_reducible repeat (first|apply Kd.di|apply Kd.dm|apply Kd.cS));exact (Kd.anW (gS 1 (.slice gZ t166.length an7) (gS 0 (.int .i64 t165) (tS cJ b7))) (fun _ h_=>h_.1))))|(refine (Kd.anY (e:=28) (base:=w.heap.size) (ok:=fun k_=>(some k_ ≠ (cw:Value).ownBlock∧some k_ ≠ (.slice zx iG.length Ao:Value).ownBlock)) (n:=t166.length) (c:=an7) ?_).2.2;exact (by (with_reducible repeat (first|apply Kd.di|apply Kd.dm|apply Kd.cS));exact (Kd.anW (gS 1 (.slice gZ t166.length an7) (gS 0 (.int .i64 t165) (tS cJ b7))) (fun _ h_=>h_.1)))));(case anD=>exact (Kd.anY cJ.z).2.1);rintro e TQ ⟨wO,rfl,aq,hb⟩;replace anL:=k0 (Kd.b8 (by (with_reducible repeat (first|apply Kd.cW|apply Kd.cX|apply Kd.cV));exact (Kd.anJ (Kd.bG (p:=⟨bC,1,none⟩) (Kd.bG (p:=⟨bC,0,none⟩) (Kd.anJ anL.z (fun k_ hk=>(⟨hk,hk.2⟩:_∧k_ ≠ bC))) (fun _ hk=>hk.2) (.int .i64 t165)) (fun _ hk=>hk.2) (.slice gZ t166.length an7)) (fun _ h_=>h_.1))) (Kd.aU aq) hb);replace bw:=k0 (Kd.b8 (by (with_reducible repeat (first|apply Kd.cW|apply Kd.cX|apply Kd.cV));exact (Kd.anJ (Kd.bG (p:=⟨bC,1,none⟩) (Kd.bG (p:=⟨bC,0,none⟩) (Kd.anJ bw.z (fun k_ hk=>(⟨hk,hk.2⟩:_∧k_ ≠ bC))) (fun _ hk=>hk.2) (.int .i64 t165)) (fun _ hk=>hk.2) (.slice gZ t166.length an7)) (fun _ h_=>h_.1))) (Kd.aU aq) hb);replace bM:=k0 (Kd.b8 (by (with_reducible repeat (first|apply Kd.cW|apply Kd.cX|apply Kd.cV));exact (Kd.anJ (Kd.bG (p:=⟨bC,1,none⟩) (Kd.bG (p:=⟨bC,0,none⟩) (Kd.anJ bM.z (fun k_ hk=>(⟨hk,hk.2⟩:_∧k_ ≠ bC))) (fun _ hk=>hk.2) (.int .i64 t165)) (fun _ hk=>hk.2) (.slice gZ t166.length an7)) (fun _ h_=>h_.1))) (Kd.aU aq) hb);replace cJ:=k0 (Kd.an6 (by (with_reducible repeat (first|apply Kd.di|apply Kd.dm|apply Kd.cS));exact (Kd.anW (gS 1 (.slice gZ t166.length an7) (gS 0 (.int .i64 t165) (tS cJ b7))) (fun _ h_=>h_.1))) (Kd.aU aq) hb);have nO:=k0 (Kd.cH (Kd.cR (Kd.cR aq (Kd.bK (by (with_reducible repeat (first|apply Kd.b_|apply Kd.bZ|apply Kd.bP));exact (Kd.aT (gR 1 (.slice gZ t166.length an7) (gR 0 (.int .i64 t165) (tR aE b7))) (fun _ h_=>h_.1))))) (Kd.bK (by (with_reducible repeat (first|apply Kd.b_|apply Kd.bZ|apply Kd.bP));exact (Kd.aT (gR 1 (.slice gZ t166.length an7) (gR 0 (.int .i64 t165) (tR bQ b7))) (fun _ h_=>h_.1))))) (anG bl));replace aE:=k0 (Kd.cQ (by (with_reducible repeat (first|apply Kd.b_|apply Kd.bZ|apply Kd.bP));exact (Kd.aT (gR 1 (.slice gZ t166.length an7) (gR 0 (.int .i64 t165) (tR aE b7))) (fun _ h_=>h_.1))) (Kd.aU aq) hb);replace bQ:=k0 (Kd.cQ (by (with_reducible repeat (first|apply Kd.b_|apply Kd.bZ|apply Kd.bP));exact (Kd.aT (gR 1 (.slice gZ t166.length an7) (gR 0 (.int .i64 t165) (tR bQ b7))) (fun _ h_=>h_.1))) (Kd.aU aq) hb);replace aJ:=k0 (cB (g:=bW) (o:=sO t102 eG t103 dZ 31) (by (with_reducible repeat (first|refine anF ?_ _|refine aH ?_|refine aI ?_ _));refine anU ?_ ia.z _;(with_reducible repeat (first|refine anF ?_ _|refine aH ?_|refine aI ?_ _));refine anU ?_ ia.z _;exact bk) hb);replace aZ:=k0 (cB (g:=cr) (o:=sO t116 an2 t117 dA 31) (by (with_reducible repeat (first|refine anF ?_ _|refine aH ?_|refine aI ?_ _));refine anU ?_ ic.z _;(with_reducible repeat (first|refine anF ?_ _|refine aH ?_|refine aI ?_ _));refine anU ?_ ic.z _;exact bk) hb);replace anN:=k0 (cB (g:=cj) (o:=sO t130 d_ t131 dQ 31) (by (with_reducible repeat (first|refine anF ?_ _|refine aH ?_|refine aI ?_ _));refine anU ?_ ie.z _;(with_reducible repeat (first|refine anF ?_ _|refine aH ?_|refine aI ?_ _));refine anU ?_ ie.z _;exact bk) hb);replace b7:=k0 (cB (g:=bC) (o:=sO t165 gZ t166 an7 31) (by (with_reducible repeat (first|refine anF ?_ _|refine aH ?_|refine aI ?_ _));refine anV (cs:=#[.int .i64 t165,.slice none 0 0]) ?_ 1 _ rfl;(with_reducible repeat (first|refine anF ?_ _|refine aH ?_|refine aI ?_ _));refine anV (cs:=#[.int .i64 0,.slice none 0 0]) ?_ 0 _ rfl;exact bk) hb);replace HB:=k0 (anH bl hb);)))
                         go_ret
                         exact ⟨eR,bl⟩
                        rw [if_pos c152] at H
                        have XO:(t174 == 0)=true:=beq_iff_eq.mpr c152
                        have XP:(t174 != 0)=false:=bne_eq_false_iff_eq.mpr c152
                        clear c152
                        replace H:=Option.bind_eq_some_iff.mp H
                        obtain ⟨t175,Ma,H⟩:=H
                        replace H:(some t175)=some r:=H
                        have GJ:=k0 Ma
                        clear Ma
                        obtain rfl:=Option.some.inj H
                        have ak6:=l7.z
                        have al1:=rU.z
                        have ak7:=jW.z
                        have al2:=l8.z
                        have aih:=aX aJ
                        have aii:=aY aJ
                        have ajI:=bF aJ 0
                        have ajJ:=bF aJ 1
                        obtain ⟨zw,Am,Zm⟩:=Kd.cK bQ.z
                        subst Zm
                        go_wp2_with (first|(go_at_call 51;(with_reducible refine (eM.calls k8 t102 _ _ t103 _ _ iG t165 t166 t169 _ ?aA ?anD ?cP ?dB tW.z).mono ?_);(case aA=>exact aC ((Kd.cN anL.z).2.2));(case anD=>exact (Kd.cN anL.z).2.1);(case cP=>exact aC ((Kd.anT bQ.z).2.2));(case dB=>exact (Kd.anT bQ.z).2.1);rintro e TK ⟨v167,rfl,aq,hb⟩;have av:=k0 (Kd.dg (aR aE.z) hb);have ax:=k0 (Kd.dg (aR bQ.z) hb);have ay:=k0 (Kd.b8 (aV anL.z) (Kd.an_ aq) hb);have anC:=k0 (Kd.b8 (aV bw.z) (Kd.an_ aq) hb);have aD:=k0 (Kd.b8 (aV bM.z) (Kd.an_ aq) hb);have anE:=k0 (Kd.gD (Kd.jy (Kd.jy aq (Kd.bK (aR aE.z))) (Kd.bK (aR bQ.z))) (anG bl));have anP:=kB aJ hb;have bL:=kB aZ hb;have b6:=kB anN hb;have cM:=k0 (anH bl hb);clear aE;clear bQ;clear anL;clear bw;clear bM;clear aJ;clear aZ;clear anN;clear HB;have aE:=av;have bQ:=ax;have anL:=ay;have bw:=anC;have bM:=aD;have cJ:=anE;have aJ:=anP;have aZ:=bL;have anN:=b6;have HB:=cM;clear av ax ay anC aD anE anP bL b6 cM;)|((with_reducible refine bN (N:=26) rfl ?_);(try (refine fV (by rfl) ?_;dsimp only));refine cE 26 #[.int .i64 0,.slice none 0 0] 31 ?_;intro bC hg TL aG hb;have av:=k0 (Kd.dg (aR aE.z) hb);have ax:=k0 (Kd.dg (aR bQ.z) hb);have ay:=k0 (Kd.dz (Kd.ej (aV anL.z) bC (Nat.le_of_eq hg.symm)) hb);have anC:=k0 (Kd.dz (Kd.ej (aV bw.z) bC (Nat.le_of_eq hg.symm)) hb);have aD:=k0 (Kd.dz (Kd.ej (aV bM.z) bC (Nat.le_of_eq hg.symm)) hb);have anE:=k0 (Kd.kn (aS cJ.z) hb);have anP:=kB aJ hb;have bL:=kB aZ hb;have b6:=kB anN hb;have cM:=k0 (anH bl hb);have fe:=k0 (aG);have gp:=k0 ((by rw [hg];exact (anG bl):w.heap.size≤bC));have gB:=k0 ((by rw [hg];exact (anG bl):w.heap.size≤bC));have fk:=nL hg aJ;have iq:=nG fk;have ir:=nL hg aZ;have aok:=nG ir;have iu:=nL hg anN;have aol:=nG iu;clear aE;clear bQ;clear anL;clear bw;clear bM;clear cJ;clear aJ;clear aZ;clear anN;clear HB;have aE:=av;have bQ:=ax;have anL:=ay;have bw:=anC;have bM:=aD;have cJ:=anE;have aJ:=anP;have aZ:=bL;have anN:=b6;have HB:=cM;have b7:=fe;have vG:=gp;have vF:=gB;have ia:=fk;have nS:=iq;have ic:=ir;have nT:=aok;have ie:=iu;have nU:=aol;clear av ax ay anC aD anE anP bL b6 cM fe gp gB fk iq ir aok iu aol;clear hb aG hg;have Rq:=nS.z;have RK:=ia.z;have Rs:=nT.z;have RL:=ic.z;have Rt:=nU.z;have RM:=ie.z;have Qc:=aX b7;have Qd:=aY b7;have QA:=bF b7 0;have QB:=bF b7 1;obtain ⟨gY,gj,Ck⟩:=Kd.eH cJ.z;subst Ck)|(go_at_call 42;(with_reducible refine (dG.calls k8 t165 _ _ t166 t171 t174 _ ?aA ?anD qV.z).mono ?_);(case aA=>first|(refine (Kd.anY (e:=28) (base:=w.heap.size) (ok:=fun k_=>((True∧some k_ ≠ (cw:Value).ownBlock)∧some k_ ≠ (.slice zw iG.length Am:Value).ownBlock)) (n:=t166.length) (c:=gj) ?_).2.2;exact (by (with_reducible repeat (first|apply Kd.di|apply Kd.dm|apply Kd.cS));exact (Kd.anW (gS 1 (.slice gY t166.length gj) (gS 0 (.int .i64 t165) (tS cJ b7))) (fun _ h_=>h_.1))))|(refine (Kd.anY (e:=28) (base:=w.heap.size) (ok:=fun k_=>(some k_ ≠ (cw:Value).ownBlock∧some k_ ≠ (.slice zw iG.length Am:Value).ownBlock)) (n:=t166.length) (c:=gj) ?_).2.2;exact (by (with_reducible repeat (first|apply Kd.di|apply Kd.dm|apply Kd.cS));exact (Kd.anW (gS 1 (.slice gY t166.length gj) (gS 0 (.int .i64 t165) (tS cJ b7))) (fun _ h_=>h_.1)))));(case anD=>exact (Kd.anY cJ.z).2.1);rintro e TM ⟨wO,rfl,aq,hb⟩;replace anL:=k0 (Kd.b8 (by (with_reducible repeat (first|apply Kd.cW|apply Kd.cX|apply Kd.cV));exact (Kd.anJ (Kd.bG (p:=⟨bC,1,none⟩) (Kd.bG (p:=⟨bC,0,none⟩) (Kd.anJ anL.z (fun k_ hk=>(⟨hk,hk.2⟩:_∧k_ ≠ bC))) (fun _ hk=>hk.2) (.int .i64 t165)) (fun _ hk=>hk.2) (.slice gY t166.length gj)) (fun _ h_=>h_.1))) (Kd.aU aq) hb);replace bw:=k0 (Kd.b8 (by (with_reducible repeat (first|apply Kd.cW|apply Kd.cX|apply Kd.cV));exact (Kd.anJ (Kd.bG (p:=⟨bC,1,none⟩) (Kd.bG (p:=⟨bC,0,none⟩) (Kd.anJ bw.z (fun k_ hk=>(⟨hk,hk.2⟩:_∧k_ ≠ bC))) (fun _ hk=>hk.2) (.int .i64 t165)) (fun _ hk=>hk.2) (.slice gY t166.length gj)) (fun _ h_=>h_.1))) (Kd.aU aq) hb);replace bM:=k0 (Kd.b8 (by (with_reducible repeat (first|apply Kd.cW|apply Kd.cX|apply Kd.cV));exact (Kd.anJ (Kd.bG (p:=⟨bC,1,none⟩) (Kd.bG (p:=⟨bC,0,none⟩) (Kd.anJ bM.z (fun k_ hk=>(⟨hk,hk.2⟩:_∧k_ ≠ bC))) (fun _ hk=>hk.2) (.int .i64 t165)) (fun _ hk=>hk.2) (.slice gY t166.length gj)) (fun _ h_=>h_.1))) (Kd.aU aq) hb);replace cJ:=k0 (Kd.an6 (by (with_reducible repeat (first|apply Kd.di|apply Kd.dm|apply Kd.cS));exact (Kd.anW (gS 1 (.slice gY t166.length gj) (gS 0 (.int .i64 t165) (tS cJ b7))) (fun _ h_=>h_.1))) (Kd.aU aq) hb);have nO:=k0 (Kd.cH (Kd.cR (Kd.cR aq (Kd.bK (by (with_reducible repeat (first|apply Kd.b_|apply Kd.bZ|apply Kd.bP));exact (Kd.aT (gR 1 (.slice gY t166.length gj) (gR 0 (.int .i64 t165) (tR aE b7))) (fun _ h_=>h_.1))))) (Kd.bK (by (with_reducible repeat (first|apply Kd.b_|apply Kd.bZ|apply Kd.bP));exact (Kd.aT (gR 1 (.slice gY t166.length gj) (gR 0 (.int .i64 t165) (tR bQ b7))) (fun _ h_=>h_.1))))) (anG bl));replace aE:=k0 (Kd.cQ (by (with_reducible repeat (first|apply Kd.b_|apply Kd.bZ|apply Kd.bP));exact (Kd.aT (gR 1 (.slice gY t166.length gj) (gR 0 (.int .i64 t165) (tR aE b7))) (fun _ h_=>h_.1))) (Kd.aU aq) hb);replace bQ:=k0 (Kd.cQ (by (with_reducible repeat (first|apply Kd.b_|apply Kd.bZ|apply Kd.bP));exact (Kd.aT (gR 1 (.slice gY t166.length gj) (gR 0 (.int .i64 t165) (tR bQ b7))) (fun _ h_=>h_.1))) (Kd.aU aq) hb);replace aJ:=k0 (cB (g:=bW) (o:=sO t102 eG t103 dZ 31) (by (with_reducible repeat (first|refine anF ?_ _|refine aH ?_|refine aI ?_ _));refine anU ?_ ia.z _;(with_reducible repeat (first|refine anF ?_ _|refine aH ?_|refine aI ?_ _));refine anU ?_ ia.z _;exact bk) hb);replace aZ:=k0 (cB (g:=cr) (o:=sO t116 an2 t117 dA 31) (by (with_reducible repeat (first|refine anF ?_ _|refine aH ?_|refine aI ?_ _));refine anU ?_ ic.z _;(with_reducible repeat (first|refine anF ?_ _|refine aH ?_|refine aI ?_ _));refine anU ?_ ic.z _;exact bk) hb);replace anN:=k0 (cB (g:=cj) (o:=sO t130 d_ t131 dQ 31) (by (with_reducible repeat (first|refine anF ?_ _|refine aH ?_|refine aI ?_ _));refine anU ?_ ie.z _;(with_reducible repeat (first|refine anF ?_ _|refine aH ?_|refine aI ?_ _));refine anU ?_ ie.z _;exact bk) hb);replace b7:=k0 (cB (g:=bC) (o:=sO t165 gY t166 gj 31) (by (with_reducible repeat (first|refine anF ?_ _|refine aH ?_|refine aI ?_ _));refine anV (cs:=#[.int .i64 t165,.slice none 0 0]) ?_ 1 _ rfl;(with_reducible repeat (first|refine anF ?_ _|refine aH ?_|refine aI ?_ _));refine anV (cs:=#[.int .i64 0,.slice none 0 0]) ?_ 0 _ rfl;exact bk) hb);replace HB:=k0 (anH bl hb);obtain ⟨ME,OS,Cl⟩:=Kd.cK nO.z;subst Cl;obtain ⟨MF,OT,Cm⟩:=Kd.cK aE.z;subst Cm)|(go_at_call 44;(with_reducible refine (ef.calls k8 _ _ t171 _ _ t107 t175 _ ?aA ?anD ?cP ?dB GJ.z).mono ?_);(case aA=>exact aC ((Kd.anT nO.z).2.2));(case anD=>exact (Kd.anT nO.z).2.1);(case cP=>exact aC ((Kd.anT aE.z).2.2));(case dB=>exact (Kd.anT aE.z).2.1);rintro e w' ⟨rfl,⟨nd,rfl⟩⟩;(try exact dN)))
                        repeat (go_quiet (first|(go_at_call 51;(with_reducible refine (eM.calls k8 t102 _ _ t103 _ _ iG t165 t166 t169 _ ?aA ?anD ?cP ?dB tW.z).mono ?_);(case aA=>exact aC ((Kd.cN anL.z).2.2));(case anD=>exact (Kd.cN anL.z).2.1);(case cP=>exact aC ((Kd.anT bQ.z).2.2));(case dB=>exact (Kd.anT bQ.z).2.1);rintro e TK ⟨v167,rfl,aq,hb⟩;have av:=k0 (Kd.dg (aR aE.z) hb);have ax:=k0 (Kd.dg (aR bQ.z) hb);have ay:=k0 (Kd.b8 (aV anL.z) (Kd.an_ aq) hb);have anC:=k0 (Kd.b8 (aV bw.z) (Kd.an_ aq) hb);have aD:=k0 (Kd.b8 (aV bM.z) (Kd.an_ aq) hb);have anE:=k0 (Kd.gD (Kd.jy (Kd.jy aq (Kd.bK (aR aE.z))) (Kd.bK (aR bQ.z))) (anG bl));have anP:=kB aJ hb;have bL:=kB aZ hb;have b6:=kB anN hb;have cM:=k0 (anH bl hb);clear aE;clear bQ;clear anL;clear bw;clear bM;clear aJ;clear aZ;clear anN;clear HB;have aE:=av;have bQ:=ax;have anL:=ay;have bw:=anC;have bM:=aD;have cJ:=anE;have aJ:=anP;have aZ:=bL;have anN:=b6;have HB:=cM;clear av ax ay anC aD anE anP bL b6 cM;)|((with_reducible refine bN (N:=26) rfl ?_);(try (refine fV (by rfl) ?_;dsimp only));refine cE 26 #[.int .i64 0,.slice none 0 0] 31 ?_;intro bC hg TL aG hb;have av:=k0 (Kd.dg (aR aE.z) hb);have ax:=k0 (Kd.dg (aR bQ.z) hb);have ay:=k0 (Kd.dz (Kd.ej (aV anL.z) bC (Nat.le_of_eq hg.symm)) hb);have anC:=k0 (Kd.dz (Kd.ej (aV bw.z) bC (Nat.le_of_eq hg.symm)) hb);have aD:=k0 (Kd.dz (Kd.ej (aV bM.z) bC (Nat.le_of_eq hg.symm)) hb);have anE:=k0 (Kd.kn (aS cJ.z) hb);have anP:=kB aJ hb;have bL:=kB aZ hb;have b6:=kB anN hb;have cM:=k0 (anH bl hb);have fe:=k0 (aG);have gp:=k0 ((by rw [hg];exact (anG bl):w.heap.size≤bC));have gB:=k0 ((by rw [hg];exact (anG bl):w.heap.size≤bC));have fk:=nL hg aJ;have iq:=nG fk;have ir:=nL hg aZ;have aok:=nG ir;have iu:=nL hg anN;have aol:=nG iu;clear aE;clear bQ;clear anL;clear bw;clear bM;clear cJ;clear aJ;clear aZ;clear anN;clear HB;have aE:=av;have bQ:=ax;have anL:=ay;have bw:=anC;have bM:=aD;have cJ:=anE;have aJ:=anP;have aZ:=bL;have anN:=b6;have HB:=cM;have b7:=fe;have vG:=gp;have vF:=gB;have ia:=fk;have nS:=iq;have ic:=ir;have nT:=aok;have ie:=iu;have nU:=aol;clear av ax ay anC aD anE anP bL b6 cM fe gp gB fk iq ir aok iu aol;clear hb aG hg;have Rq:=nS.z;have RK:=ia.z;have Rs:=nT.z;have RL:=ic.z;have Rt:=nU.z;have RM:=ie.z;have Qc:=aX b7;have Qd:=aY b7;have QA:=bF b7 0;have QB:=bF b7 1;obtain ⟨gY,gj,Ck⟩:=Kd.eH cJ.z;subst Ck)|(go_at_call 42;(with_reducible refine (dG.calls k8 t165 _ _ t166 t171 t174 _ ?aA ?anD qV.z).mono ?_);(case aA=>first|(refine (Kd.anY (e:=28) (base:=w.heap.size) (ok:=fun k_=>((True∧some k_ ≠ (cw:Value).ownBlock)∧some k_ ≠ (.slice zw iG.length Am:Value).ownBlock)) (n:=t166.length) (c:=gj) ?_).2.2;exact (by (with_reducible repeat (first|apply Kd.di|apply Kd.dm|apply Kd.cS));exact (Kd.anW (gS 1 (.slice gY t166.length gj) (gS 0 (.int .i64 t165) (tS cJ b7))) (fun _ h_=>h_.1))))|(refine (Kd.anY (e:=28) (base:=w.heap.size) (ok:=fun k_=>(some k_ ≠ (cw:Value).ownBlock∧some k_ ≠ (.slice zw iG.length Am:Value).ownBlock)) (n:=t166.length) (c:=gj) ?_).2.2;exact (by (with_reducible repeat (first|apply Kd.di|apply Kd.dm|apply Kd.cS));exact (Kd.anW (gS 1 (.slice gY t166.length gj) (gS 0 (.int .i64 t165) (tS cJ b7))) (fun _ h_=>h_.1)))));(case anD=>exact (Kd.anY cJ.z).2.1);rintro e TM ⟨wO,rfl,aq,hb⟩;replace anL:=k0 (Kd.b8 (by (with_reducible repeat (first|apply Kd.cW|apply Kd.cX|apply Kd.cV));exact (Kd.anJ (Kd.bG (p:=⟨bC,1,none⟩) (Kd.bG (p:=⟨bC,0,none⟩) (Kd.anJ anL.z (fun k_ hk=>(⟨hk,hk.2⟩:_∧k_ ≠ bC))) (fun _ hk=>hk.2) (.int .i64 t165)) (fun _ hk=>hk.2) (.slice gY t166.length gj)) (fun _ h_=>h_.1))) (Kd.aU aq) hb);replace bw:=k0 (Kd.b8 (by (with_reducible repeat (first|apply Kd.cW|apply Kd.cX|apply Kd.cV));exact (Kd.anJ (Kd.bG (p:=⟨bC,1,none⟩) (Kd.bG (p:=⟨bC,0,none⟩) (Kd.anJ bw.z (fun k_ hk=>(⟨hk,hk.2⟩:_∧k_ ≠ bC))) (fun _ hk=>hk.2) (.int .i64 t165)) (fun _ hk=>hk.2) (.slice gY t166.length gj)) (fun _ h_=>h_.1))) (Kd.aU aq) hb);replace bM:=k0 (Kd.b8 (by (with_reducible repeat (first|apply Kd.cW|apply Kd.cX|apply Kd.cV));exact (Kd.anJ (Kd.bG (p:=⟨bC,1,none⟩) (Kd.bG (p:=⟨bC,0,none⟩) (Kd.anJ bM.z (fun k_ hk=>(⟨hk,hk.2⟩:_∧k_ ≠ bC))) (fun _ hk=>hk.2) (.int .i64 t165)) (fun _ hk=>hk.2) (.slice gY t166.length gj)) (fun _ h_=>h_.1))) (Kd.aU aq) hb);replace cJ:=k0 (Kd.an6 (by (with_reducible repeat (first|apply Kd.di|apply Kd.dm|apply Kd.cS));exact (Kd.anW (gS 1 (.slice gY t166.length gj) (gS 0 (.int .i64 t165) (tS cJ b7))) (fun _ h_=>h_.1))) (Kd.aU aq) hb);have nO:=k0 (Kd.cH (Kd.cR (Kd.cR aq (Kd.bK (by (with_reducible repeat (first|apply Kd.b_|apply Kd.bZ|apply Kd.bP));exact (Kd.aT (gR 1 (.slice gY t166.length gj) (gR 0 (.int .i64 t165) (tR aE b7))) (fun _ h_=>h_.1))))) (Kd.bK (by (with_reducible repeat (first|apply Kd.b_|apply Kd.bZ|apply Kd.bP));exact (Kd.aT (gR 1 (.slice gY t166.length gj) (gR 0 (.int .i64 t165) (tR bQ b7))) (fun _ h_=>h_.1))))) (anG bl));replace aE:=k0 (Kd.cQ (by (with_reducible repeat (first|apply Kd.b_|apply Kd.bZ|apply Kd.bP));exact (Kd.aT (gR 1 (.slice gY t166.length gj) (gR 0 (.int .i64 t165) (tR aE b7))) (fun _ h_=>h_.1))) (Kd.aU aq) hb);replace bQ:=k0 (Kd.cQ (by (with_reducible repeat (first|apply Kd.b_|apply Kd.bZ|apply Kd.bP));exact (Kd.aT (gR 1 (.slice gY t166.length gj) (gR 0 (.int .i64 t165) (tR bQ b7))) (fun _ h_=>h_.1))) (Kd.aU aq) hb);replace aJ:=k0 (cB (g:=bW) (o:=sO t102 eG t103 dZ 31) (by (with_reducible repeat (first|refine anF ?_ _|refine aH ?_|refine aI ?_ _));refine anU ?_ ia.z _;(with_reducible repeat (first|refine anF ?_ _|refine aH ?_|refine aI ?_ _));refine anU ?_ ia.z _;exact bk) hb);replace aZ:=k0 (cB (g:=cr) (o:=sO t116 an2 t117 dA 31) (by (with_reducible repeat (first|refine anF ?_ _|refine aH ?_|refine aI ?_ _));refine anU ?_ ic.z _;(with_reducible repeat (first|refine anF ?_ _|refine aH ?_|refine aI ?_ _));refine anU ?_ ic.z _;exact bk) hb);replace anN:=k0 (cB (g:=cj) (o:=sO t130 d_ t131 dQ 31) (by (with_reducible repeat (first|refine anF ?_ _|refine aH ?_|refine aI ?_ _));refine anU ?_ ie.z _;(with_reducible repeat (first|refine anF ?_ _|refine aH ?_|refine aI ?_ _));refine anU ?_ ie.z _;exact bk) hb);replace b7:=k0 (cB (g:=bC) (o:=sO t165 gY t166 gj 31) (by (with_reducible repeat (first|refine anF ?_ _|refine aH ?_|refine aI ?_ _));refine anV (cs:=#[.int .i64 t165,.slice none 0 0]) ?_ 1 _ rfl;(with_reducible repeat (first|refine anF ?_ _|refine aH ?_|refine aI ?_ _));refine anV (cs:=#[.int .i64 0,.slice none 0 0]) ?_ 0 _ rfl;exact bk) hb);replace HB:=k0 (anH bl hb);obtain ⟨ME,OS,Cl⟩:=Kd.cK nO.z;subst Cl;obtain ⟨MF,OT,Cm⟩:=Kd.cK aE.z;subst Cm)|(go_at_call 44;(with_reducible refine (ef.calls k8 _ _ t171 _ _ t107 t175 _ ?aA ?anD ?cP ?dB GJ.z).mono ?_);(case aA=>exact aC ((Kd.anT nO.z).2.2));(case anD=>exact (Kd.anT nO.z).2.1);(case cP=>exact aC ((Kd.anT aE.z).2.2));(case dB=>exact (Kd.anT aE.z).2.1);rintro e w' ⟨rfl,⟨nd,rfl⟩⟩;(try exact dN)));try go_wp2_with (first|(go_at_call 51;(with_reducible refine (eM.calls k8 t102 _ _ t103 _ _ iG t165 t166 t169 _ ?aA ?anD ?cP ?dB tW.z).mono ?_);(case aA=>exact aC ((Kd.cN anL.z).2.2));(case anD=>exact (Kd.cN anL.z).2.1);(case cP=>exact aC ((Kd.anT bQ.z).2.2));(case dB=>exact (Kd.anT bQ.z).2.1);rintro e TK ⟨v167,rfl,aq,hb⟩;have av:=k0 (Kd.dg (aR aE.z) hb);have ax:=k0 (Kd.dg (aR bQ.z) hb);have ay:=k0 (Kd.b8 (aV anL.z) (Kd.an_ aq) hb);have anC:=k0 (Kd.b8 (aV bw.z) (Kd.an_ aq) hb);have aD:=k0 (Kd.b8 (aV bM.z) (Kd.an_ aq) hb);have anE:=k0 (Kd.gD (Kd.jy (Kd.jy aq (Kd.bK (aR aE.z))) (Kd.bK (aR bQ.z))) (anG bl));have anP:=kB aJ hb;have bL:=kB aZ hb;have b6:=kB anN hb;have cM:=k0 (anH bl hb);clear aE;clear bQ;clear anL;clear bw;clear bM;clear aJ;clear aZ;clear anN;clear HB;have aE:=av;have bQ:=ax;have anL:=ay;have bw:=anC;have bM:=aD;have cJ:=anE;have aJ:=anP;have aZ:=bL;have anN:=b6;have HB:=cM;clear av ax ay anC aD anE anP bL b6 cM;)|((with_reducible refine bN (N:=26) rfl ?_);(try (refine fV (by rfl) ?_;dsimp only));refine cE 26 #[.int .i64 0,.slice none 0 0] 31 ?_;intro bC hg TL aG hb;have av:=k0 (Kd.dg (aR aE.z) hb);have ax:=k0 (Kd.dg (aR bQ.z) hb);have ay:=k0 (Kd.dz (Kd.ej (aV anL.z) bC (Nat.le_of_eq hg.symm)) hb);have anC:=k0 (Kd.dz (Kd.ej (aV bw.z) bC (Nat.le_of_eq hg.symm)) hb);have aD:=k0 (Kd.dz (Kd.ej (aV bM.z) bC (Nat.le_of_eq hg.symm)) hb);have anE:=k0 (Kd.kn (aS cJ.z) hb);have anP:=kB aJ hb;have bL:=kB aZ hb;have b6:=kB anN hb;have cM:=k0 (anH bl hb);have fe:=k0 (aG);have gp:=k0 ((by rw [hg];exact (anG bl):w.heap.size≤bC));have gB:=k0 ((by rw [hg];exact (anG bl):w.heap.size≤bC));have fk:=nL hg aJ;have iq:=nG fk;have ir:=nL hg aZ;have aok:=nG ir;have iu:=nL hg anN;have aol:=nG iu;clear aE;clear bQ;clear anL;clear bw;clear bM;clear cJ;clear aJ;clear aZ;clear anN;clear HB;have aE:=av;have bQ:=ax;have anL:=ay;have bw:=anC;have bM:=aD;have cJ:=anE;have aJ:=anP;have aZ:=bL;have anN:=b6;have HB:=cM;have b7:=fe;have vG:=gp;have vF:=gB;have ia:=fk;have nS:=iq;have ic:=ir;have nT:=aok;have ie:=iu;have nU:=aol;clear av ax ay anC aD anE anP bL b6 cM fe gp gB fk iq ir aok iu aol;clear hb aG hg;have Rq:=nS.z;have RK:=ia.z;have Rs:=nT.z;have RL:=ic.z;have Rt:=nU.z;have RM:=ie.z;have Qc:=aX b7;have Qd:=aY b7;have QA:=bF b7 0;have QB:=bF b7 1;obtain ⟨gY,gj,Ck⟩:=Kd.eH cJ.z;subst Ck)|(go_at_call 42;(with_reducible refine (dG.calls k8 t165 _ _ t166 t171 t174 _ ?aA ?anD qV.z).mono ?_);(case aA=>first|(refine (Kd.anY (e:=28) (base:=w.heap.size) (ok:=fun k_=>((True∧some k_ ≠ (cw:Value).ownBlock)∧some k_ ≠ (.slice zw iG.length Am:Value).ownBlock)) (n:=t166.length) (c:=gj) ?_).2.2;exact (by (with_reducible repeat (first|apply Kd.di|apply Kd.dm|apply Kd.cS));exact (Kd.anW (gS 1 (.slice gY t166.length gj) (gS 0 (.int .i64 t165) (tS cJ b7))) (fun _ h_=>h_.1))))|(refine (Kd.anY (e:=28) (base:=w.heap.size) (ok:=fun k_=>(some k_ ≠ (cw:Value).ownBlock∧some k_ ≠ (.slice zw iG.length Am:Value).ownBlock)) (n:=t166.length) (c:=gj) ?_).2.2;exact (by (with_reducible repeat (first|apply Kd.di|apply Kd.dm|apply Kd.cS));exact (Kd.anW (gS 1 (.slice gY t166.length gj) (gS 0 (.int .i64 t165) (tS cJ b7))) (fun _ h_=>h_.1)))));(case anD=>exact (Kd.anY cJ.z).2.1);rintro e TM ⟨wO,rfl,aq,hb⟩;replace anL:=k0 (Kd.b8 (by (with_reducible repeat (first|apply Kd.cW|apply Kd.cX|apply Kd.cV));exact (Kd.anJ (Kd.bG (p:=⟨bC,1,none⟩) (Kd.bG (p:=⟨bC,0,none⟩) (Kd.anJ anL.z (fun k_ hk=>(⟨hk,hk.2⟩:_∧k_ ≠ bC))) (fun _ hk=>hk.2) (.int .i64 t165)) (fun _ hk=>hk.2) (.slice gY t166.length gj)) (fun _ h_=>h_.1))) (Kd.aU aq) hb);replace bw:=k0 (Kd.b8 (by (with_reducible repeat (first|apply Kd.cW|apply Kd.cX|apply Kd.cV));exact (Kd.anJ (Kd.bG (p:=⟨bC,1,none⟩) (Kd.bG (p:=⟨bC,0,none⟩) (Kd.anJ bw.z (fun k_ hk=>(⟨hk,hk.2⟩:_∧k_ ≠ bC))) (fun _ hk=>hk.2) (.int .i64 t165)) (fun _ hk=>hk.2) (.slice gY t166.length gj)) (fun _ h_=>h_.1))) (Kd.aU aq) hb);replace bM:=k0 (Kd.b8 (by (with_reducible repeat (first|apply Kd.cW|apply Kd.cX|apply Kd.cV));exact (Kd.anJ (Kd.bG (p:=⟨bC,1,none⟩) (Kd.bG (p:=⟨bC,0,none⟩) (Kd.anJ bM.z (fun k_ hk=>(⟨hk,hk.2⟩:_∧k_ ≠ bC))) (fun _ hk=>hk.2) (.int .i64 t165)) (fun _ hk=>hk.2) (.slice gY t166.length gj)) (fun _ h_=>h_.1))) (Kd.aU aq) hb);replace cJ:=k0 (Kd.an6 (by (with_reducible repeat (first|apply Kd.di|apply Kd.dm|apply Kd.cS));exact (Kd.anW (gS 1 (.slice gY t166.length gj) (gS 0 (.int .i64 t165) (tS cJ b7))) (fun _ h_=>h_.1))) (Kd.aU aq) hb);have nO:=k0 (Kd.cH (Kd.cR (Kd.cR aq (Kd.bK (by (with_reducible repeat (first|apply Kd.b_|apply Kd.bZ|apply Kd.bP));exact (Kd.aT (gR 1 (.slice gY t166.length gj) (gR 0 (.int .i64 t165) (tR aE b7))) (fun _ h_=>h_.1))))) (Kd.bK (by (with_reducible repeat (first|apply Kd.b_|apply Kd.bZ|apply Kd.bP));exact (Kd.aT (gR 1 (.slice gY t166.length gj) (gR 0 (.int .i64 t165) (tR bQ b7))) (fun _ h_=>h_.1))))) (anG bl));replace aE:=k0 (Kd.cQ (by (with_reducible repeat (first|apply Kd.b_|apply Kd.bZ|apply Kd.bP));exact (Kd.aT (gR 1 (.slice gY t166.length gj) (gR 0 (.int .i64 t165) (tR aE b7))) (fun _ h_=>h_.1))) (Kd.aU aq) hb);replace bQ:=k0 (Kd.cQ (by (with_reducible repeat (first|apply Kd.b_|apply Kd.bZ|apply Kd.bP));exact (Kd.aT (gR 1 (.slice gY t166.length gj) (gR 0 (.int .i64 t165) (tR bQ b7))) (fun _ h_=>h_.1))) (Kd.aU aq) hb);replace aJ:=k0 (cB (g:=bW) (o:=sO t102 eG t103 dZ 31) (by (with_reducible repeat (first|refine anF ?_ _|refine aH ?_|refine aI ?_ _));refine anU ?_ ia.z _;(with_reducible repeat (first|refine anF ?_ _|refine aH ?_|refine aI ?_ _));refine anU ?_ ia.z _;exact bk) hb);replace aZ:=k0 (cB (g:=cr) (o:=sO t116 an2 t117 dA 31) (by (with_reducible repeat (first|refine anF ?_ _|refine aH ?_|refine aI ?_ _));refine anU ?_ ic.z _;(with_reducible repeat (first|refine anF ?_ _|refine aH ?_|refine aI ?_ _));refine anU ?_ ic.z _;exact bk) hb);replace anN:=k0 (cB (g:=cj) (o:=sO t130 d_ t131 dQ 31) (by (with_reducible repeat (first|refine anF ?_ _|refine aH ?_|refine aI ?_ _));refine anU ?_ ie.z _;(with_reducible repeat (first|refine anF ?_ _|refine aH ?_|refine aI ?_ _));refine anU ?_ ie.z _;exact bk) hb);replace b7:=k0 (cB (g:=bC) (o:=sO t165 gY t166 gj 31) (by (with_reducible repeat (first|refine anF ?_ _|refine aH ?_|refine aI ?_ _));refine anV (cs:=#[.int .i64 t165,.slice none 0 0]) ?_ 1 _ rfl;(with_reducible repeat (first|refine anF ?_ _|refine aH ?_|refine aI ?_ _));refine anV (cs:=#[.int .i64 0,.slice none 0 0]) ?_ 0 _ rfl;exact bk) hb);replace HB:=k0 (anH bl hb);obtain ⟨ME,OS,Cl⟩:=Kd.cK nO.z;subst Cl;obtain ⟨MF,OT,Cm⟩:=Kd.cK aE.z;subst Cm)|(go_at_call 44;(with_reducible refine (ef.calls k8 _ _ t171 _ _ t107 t175 _ ?aA ?anD ?cP ?dB GJ.z).mono ?_);(case aA=>exact aC ((Kd.anT nO.z).2.2));(case anD=>exact (Kd.anT nO.z).2.1);(case cP=>exact aC ((Kd.anT aE.z).2.2));(case dB=>exact (Kd.anT aE.z).2.1);rintro e w' ⟨rfl,⟨nd,rfl⟩⟩;(try exact dN))))
                        go_ret
                        exact ⟨eR,bl⟩
                       rw [if_pos c143] at H
                       have XJ:=decide_eq_true c143
                       clear c143
                       replace H:=iS H;obtain ⟨c144,H⟩:=H
                       have apY:=k0 c144
                       clear c144
                       obtain ⟨Ud,KC⟩:∃ y_:List Int,y_=(iG ++ [wrap64 ((wrap64 (t102 - 1)) - qu)]):=⟨_,rfl⟩
                       replace H:(anR.l2 k8 t107 Ud (wrap64 (qu+1)) t102 t103)=some r:=rH KC H
                       have HX:=k0 KC
                       clear KC
                       have H':=k0 H
                       clear H
                       have ak4:=l7.z
                       have alZ:=rU.z
                       have ak5:=jW.z
                       have al0:=l8.z
                       have aie:=aX aJ
                       have aif:=aY aJ
                       have ajG:=bF aJ 0
                       have ajH:=bF aJ 1
                       go_wp2_with (first|((with_reducible refine aoi (b:=.append) (xs:=#[.tmp 208,.tmp 214]) rfl ?_);(try (refine fV (by rfl) ?_;dsimp only));at_builtin;refine Kd.qB (Kd.int .i64) (w0:=w) w.heap.size rfl (.tmp 208) (.tmp 214) 28 2 (.int .i64 0) 8 rfl Try.underlying28 aoj rfl (by decide) (by omega) u24 iG (wrap64 ((wrap64 (t102 - 1)) - qu)) [.int .i64 (wrap64 ((wrap64 (t102 - 1)) - qu))] (fun k_=>some k_ ≠ (cw:Value).ownBlock) (fun _=>False) rfl rfl ?aP (fun _ hk=>hk.elim) ?aF ?aO ?aB ?aS ?aL ?_;(case aP=>exact rfl);(case aB=>exact bl);(case aF=>exact (fun k_ hk=>Kd.fresh' (Kd.bK (aR aE.z)) k_ hk));(case aO=>exact (aR bQ.z));(case aS=>exact (anG bl));(case aL=>have:=apY.out;omega);intro TE TJ ho hb hg bz;rw [← HX.z] at ho;have av:=k0 (Kd.lz (ok:=(fun _=>True)) (by (with_reducible repeat (first|apply Kd.b_|apply Kd.bZ|apply Kd.bP));exact Kd.aT aE.z (fun _ hk=>⟨trivial,hk⟩)) hg bz);have ax:=k0 (Kd.tB (ok:=(fun k_=>some k_ ≠ (cw:Value).ownBlock∧k_ ≠ bW∧k_ ≠ cr∧k_ ≠ cj)) (by (with_reducible repeat (first|apply Kd.cW|apply Kd.cX|apply Kd.cV));exact Kd.anJ anL.z (fun _ hk=>⟨⟨hk.1,⟨hk.2.2.1,⟨hk.2.2.2.1,hk.2.2.2.2⟩⟩⟩,hk.2.1⟩)) hg bz);have ay:=k0 (Kd.tB (ok:=(fun k_=>some k_ ≠ (cw:Value).ownBlock∧k_ ≠ bW∧k_ ≠ cr∧k_ ≠ cj)) (by (with_reducible repeat (first|apply Kd.cW|apply Kd.cX|apply Kd.cV));exact Kd.anJ bw.z (fun _ hk=>⟨⟨hk.1,⟨hk.2.2.1,⟨hk.2.2.2.1,hk.2.2.2.2⟩⟩⟩,hk.2.1⟩)) hg bz);have anC:=k0 (Kd.tB (ok:=(fun k_=>some k_ ≠ (cw:Value).ownBlock∧k_ ≠ bW∧k_ ≠ cr∧k_ ≠ cj)) (by (with_reducible repeat (first|apply Kd.cW|apply Kd.cX|apply Kd.cV));exact Kd.anJ bM.z (fun _ hk=>⟨⟨hk.1,⟨hk.2.2.1,⟨hk.2.2.2.1,hk.2.2.2.2⟩⟩⟩,hk.2.1⟩)) hg bz);have aD:=k0 (gh (aB aJ.z) hg (Kd.iM bQ.z aJ.z (by decide)));have anE:=k0 (gh (aB aZ.z) hg (Kd.iM bQ.z aZ.z (by decide)));have anP:=k0 (gh (aB anN.z) hg (Kd.iM bQ.z anN.z (by decide)));have bL:=k0 (hb);have b6:=k0 (ho);clear aE;clear anL;clear bw;clear bM;clear aJ;clear aZ;clear anN;clear HB;clear bQ;have aE:=av;have anL:=ax;have bw:=ay;have bM:=anC;have aJ:=aD;have aZ:=anE;have anN:=anP;have HB:=bL;have Hr:=b6;clear av ax ay anC aD anE anP bL b6;clear ho hb hg bz))
                       repeat (go_quiet (first|((with_reducible refine aoi (b:=.append) (xs:=#[.tmp 208,.tmp 214]) rfl ?_);(try (refine fV (by rfl) ?_;dsimp only));at_builtin;refine Kd.qB (Kd.int .i64) (w0:=w) w.heap.size rfl (.tmp 208) (.tmp 214) 28 2 (.int .i64 0) 8 rfl Try.underlying28 aoj rfl (by decide) (by omega) u24 iG (wrap64 ((wrap64 (t102 - 1)) - qu)) [.int .i64 (wrap64 ((wrap64 (t102 - 1)) - qu))] (fun k_=>some k_ ≠ (cw:Value).ownBlock) (fun _=>False) rfl rfl ?aP (fun _ hk=>hk.elim) ?aF ?aO ?aB ?aS ?aL ?_;(case aP=>exact rfl);(case aB=>exact bl);(case aF=>exact (fun k_ hk=>Kd.fresh' (Kd.bK (aR aE.z)) k_ hk));(case aO=>exact (aR bQ.z));(case aS=>exact (anG bl));(case aL=>have:=apY.out;omega);intro TE TJ ho hb hg bz;rw [← HX.z] at ho;have av:=k0 (Kd.lz (ok:=(fun _=>True)) (by (with_reducible repeat (first|apply Kd.b_|apply Kd.bZ|apply Kd.bP));exact Kd.aT aE.z (fun _ hk=>⟨trivial,hk⟩)) hg bz);have ax:=k0 (Kd.tB (ok:=(fun k_=>some k_ ≠ (cw:Value).ownBlock∧k_ ≠ bW∧k_ ≠ cr∧k_ ≠ cj)) (by (with_reducible repeat (first|apply Kd.cW|apply Kd.cX|apply Kd.cV));exact Kd.anJ anL.z (fun _ hk=>⟨⟨hk.1,⟨hk.2.2.1,⟨hk.2.2.2.1,hk.2.2.2.2⟩⟩⟩,hk.2.1⟩)) hg bz);have ay:=k0 (Kd.tB (ok:=(fun k_=>some k_ ≠ (cw:Value).ownBlock∧k_ ≠ bW∧k_ ≠ cr∧k_ ≠ cj)) (by (with_reducible repeat (first|apply Kd.cW|apply Kd.cX|apply Kd.cV));exact Kd.anJ bw.z (fun _ hk=>⟨⟨hk.1,⟨hk.2.2.1,⟨hk.2.2.2.1,hk.2.2.2.2⟩⟩⟩,hk.2.1⟩)) hg bz);have anC:=k0 (Kd.tB (ok:=(fun k_=>some k_ ≠ (cw:Value).ownBlock∧k_ ≠ bW∧k_ ≠ cr∧k_ ≠ cj)) (by (with_reducible repeat (first|apply Kd.cW|apply Kd.cX|apply Kd.cV));exact Kd.anJ bM.z (fun _ hk=>⟨⟨hk.1,⟨hk.2.2.1,⟨hk.2.2.2.1,hk.2.2.2.2⟩⟩⟩,hk.2.1⟩)) hg bz);have aD:=k0 (gh (aB aJ.z) hg (Kd.iM bQ.z aJ.z (by decide)));have anE:=k0 (gh (aB aZ.z) hg (Kd.iM bQ.z aZ.z (by decide)));have anP:=k0 (gh (aB anN.z) hg (Kd.iM bQ.z anN.z (by decide)));have bL:=k0 (hb);have b6:=k0 (ho);clear aE;clear anL;clear bw;clear bM;clear aJ;clear aZ;clear anN;clear HB;clear bQ;have aE:=av;have anL:=ax;have bw:=ay;have bM:=anC;have aJ:=aD;have aZ:=anE;have anN:=anP;have HB:=bL;have Hr:=b6;clear av ax ay anC aD anE anP bL b6;clear ho hb hg bz));try go_wp2_with (first|((with_reducible refine aoi (b:=.append) (xs:=#[.tmp 208,.tmp 214]) rfl ?_);(try (refine fV (by rfl) ?_;dsimp only));at_builtin;refine Kd.qB (Kd.int .i64) (w0:=w) w.heap.size rfl (.tmp 208) (.tmp 214) 28 2 (.int .i64 0) 8 rfl Try.underlying28 aoj rfl (by decide) (by omega) u24 iG (wrap64 ((wrap64 (t102 - 1)) - qu)) [.int .i64 (wrap64 ((wrap64 (t102 - 1)) - qu))] (fun k_=>some k_ ≠ (cw:Value).ownBlock) (fun _=>False) rfl rfl ?aP (fun _ hk=>hk.elim) ?aF ?aO ?aB ?aS ?aL ?_;(case aP=>exact rfl);(case aB=>exact bl);(case aF=>exact (fun k_ hk=>Kd.fresh' (Kd.bK (aR aE.z)) k_ hk));(case aO=>exact (aR bQ.z));(case aS=>exact (anG bl));(case aL=>have:=apY.out;omega);intro TE TJ ho hb hg bz;rw [← HX.z] at ho;have av:=k0 (Kd.lz (ok:=(fun _=>True)) (by (with_reducible repeat (first|apply Kd.b_|apply Kd.bZ|apply Kd.bP));exact Kd.aT aE.z (fun _ hk=>⟨trivial,hk⟩)) hg bz);have ax:=k0 (Kd.tB (ok:=(fun k_=>some k_ ≠ (cw:Value).ownBlock∧k_ ≠ bW∧k_ ≠ cr∧k_ ≠ cj)) (by (with_reducible repeat (first|apply Kd.cW|apply Kd.cX|apply Kd.cV));exact Kd.anJ anL.z (fun _ hk=>⟨⟨hk.1,⟨hk.2.2.1,⟨hk.2.2.2.1,hk.2.2.2.2⟩⟩⟩,hk.2.1⟩)) hg bz);have ay:=k0 (Kd.tB (ok:=(fun k_=>some k_ ≠ (cw:Value).ownBlock∧k_ ≠ bW∧k_ ≠ cr∧k_ ≠ cj)) (by (with_reducible repeat (first|apply Kd.cW|apply Kd.cX|apply Kd.cV));exact Kd.anJ bw.z (fun _ hk=>⟨⟨hk.1,⟨hk.2.2.1,⟨hk.2.2.2.1,hk.2.2.2.2⟩⟩⟩,hk.2.1⟩)) hg bz);have anC:=k0 (Kd.tB (ok:=(fun k_=>some k_ ≠ (cw:Value).ownBlock∧k_ ≠ bW∧k_ ≠ cr∧k_ ≠ cj)) (by (with_reducible repeat (first|apply Kd.cW|apply Kd.cX|apply Kd.cV));exact Kd.anJ bM.z (fun _ hk=>⟨⟨hk.1,⟨hk.2.2.1,⟨hk.2.2.2.1,hk.2.2.2.2⟩⟩⟩,hk.2.1⟩)) hg bz);have aD:=k0 (gh (aB aJ.z) hg (Kd.iM bQ.z aJ.z (by decide)));have anE:=k0 (gh (aB aZ.z) hg (Kd.iM bQ.z aZ.z (by decide)));have anP:=k0 (gh (aB anN.z) hg (Kd.iM bQ.z anN.z (by decide)));have bL:=k0 (hb);have b6:=k0 (ho);clear aE;clear anL;clear bw;clear bM;clear aJ;clear aZ;clear anN;clear HB;clear bQ;have aE:=av;have anL:=ax;have bw:=ay;have bM:=anC;have aJ:=aD;have aZ:=anE;have anN:=anP;have HB:=bL;have Hr:=b6;clear av ax ay anC aD anE anP bL b6;clear ho hb hg bz)))
                       go_roundg k8
                       case measure=>have:=lQ.out;have:=mJ.out;have:=nM.out;have:=oU.out;have:=vH.out;have:=zN.out;have:=Nl.out;have:=Np.z;omega
                       case rel=>exact ⟨(Ud),(wrap64 (qu+1)),rs,H',⟨by have:=lQ.out;have:=mJ.out;have:=nM.out;have:=oU.out;have:=vH.out;have:=zN.out;have:=Nl.out;have:=Np.z;omega⟩,⟨aR (Kd.aT aE.z (fun _ hk=>hk.2))⟩,⟨aR (Hr.z)⟩,⟨aV (Kd.anJ anL.z (fun _ hk=>⟨hk.1.1,⟨hk.2,⟨hk.1.2.1,⟨hk.1.2.2.1,hk.1.2.2.2⟩⟩⟩⟩))⟩,⟨aV (Kd.anJ bw.z (fun _ hk=>⟨hk.1.1,⟨hk.2,⟨hk.1.2.1,⟨hk.1.2.2.1,hk.1.2.2.2⟩⟩⟩⟩))⟩,⟨aV (Kd.anJ bM.z (fun _ hk=>⟨hk.1.1,⟨hk.2,⟨hk.1.2.1,⟨hk.1.2.2.1,hk.1.2.2.2⟩⟩⟩⟩))⟩,⟨bk⟩,⟨bk⟩,⟨bk⟩,⟨bl⟩⟩
                  subst c127
                  have H1:(some false)=some r:=by rw [if_pos rfl] at H;exact H
                  clear H
                  have H:=H1
                  clear H1
                  obtain rfl:=Option.some.inj H
                  go_wp2
                  repeat (go_quiet (fail);try go_wp2)
                  go_ret
                  exact ⟨eR,bl⟩
             subst c61
             have H1:(some false)=some r:=by rw [if_pos rfl] at H;exact H
             clear H
             have H:=H1
             clear H1
             obtain rfl:=Option.some.inj H
             go_wp2
             repeat (go_quiet (fail);try go_wp2)
             go_ret
             exact ⟨eR,bl⟩
          subst c54
          have H1:(some false)=some r:=by rw [if_pos rfl] at H;exact H
          clear H
          have H:=H1
          clear H1
          obtain rfl:=Option.some.inj H
          go_wp2
          repeat (go_quiet (fail);try go_wp2)
          go_ret
          exact ⟨eR,bl⟩
       subst c36
       have H1:(some false)=some r:=by rw [if_pos rfl] at H;exact H
       clear H
       have H:=H1
       clear H1
       obtain rfl:=Option.some.inj H
       go_wp2
       repeat (go_quiet (fail);try go_wp2)
       go_ret
       exact ⟨eR,bl⟩
    subst c19
    have H1:(some false)=some r:=by rw [if_pos rfl] at H;exact H
    clear H
    have H:=H1
    clear H1
    obtain rfl:=Option.some.inj H
    go_wp2
    repeat (go_quiet (fail);try go_wp2)
    go_ret
    exact ⟨eR,bl⟩
 subst c3
 have H1:(some true)=some r:=by rw [if_pos rfl] at H;exact H
 clear H
 have H:=H1
 clear H1
 obtain rfl:=Option.some.inj H
 go_enter Try.func10,Try.ntmps10
 go_wp2_with (first|(go_at_call 40;(with_reducible refine (rP.calls _ _ l0 true _ ?aA ?anD A2.z).mono ?_);(case aA=>exact aC dh.z);(case anD=>exact fI.z);rintro e w' ⟨rfl,⟨nd,rfl⟩⟩;(try exact dN)))
 repeat (go_quiet (first|(go_at_call 40;(with_reducible refine (rP.calls _ _ l0 true _ ?aA ?anD A2.z).mono ?_);(case aA=>exact aC dh.z);(case anD=>exact fI.z);rintro e w' ⟨rfl,⟨nd,rfl⟩⟩;(try exact dN)));try go_wp2_with (first|(go_at_call 40;(with_reducible refine (rP.calls _ _ l0 true _ ?aA ?anD A2.z).mono ?_);(case aA=>exact aC dh.z);(case anD=>exact fI.z);rintro e w' ⟨rfl,⟨nd,rfl⟩⟩;(try exact dN))))
 go_ret
 exact ⟨eR,bl⟩
/-- THE ONE PURE STATEMENT of F10: yours. -/
def anR.Pure:Prop:=∀ (l0:List Int),l0.length≤maxLen→l0.length * 1≤140737488351232→(∀ x ∈ l0,(Lit.int .u8 x).wf=true)→∃ k,anR.f k l0=some true
theorem anR.walk (P : anR.Pure) (a0 : Option Addr) (wG v_ : Nat) (z0 : List Int) (w : World) (w0 : (a0 = none ∧ wG = 0 ∧ v_ = 0 ∧ z0 = []) ∨ ∃ x, a0 = some x ∧ wG ≤ v_ ∧ v_ ≤ maxLen ∧ z0.length = v_ ∧ (∀ i, i < z0.length → w.cell? (x.add i) = some (.int .u8 (z0.getD i 0))) ∧ ∀ n ∈ z0, (Lit.int .u8 n).wf = true) (y0 : wG * 1 ≤ 140737488351232) :
  Calls Try.prog 10 #[.slice a0 wG v_] w fun e w'=>e=.returned (.bool true)∧Below w.heap.size w w':=by
 obtain ⟨l0,rfl,cL,hm0,hw0,hc0⟩:=l9.adZ w0
 obtain ⟨k,h⟩:=P l0 hm0 y0 hw0
 refine (anR.calls k _ _ l0 true w (Kd.El (d:=(0:Int)) (h1:=fun _=>rfl) cL) hc0 h).mono ?_
 rintro e w' ⟨rfl,hd⟩
 exact ⟨rfl,hd⟩
end Go.Proofs.Ytoebojnhchocaaa.G
/- Set with little white space, by a program. -/
