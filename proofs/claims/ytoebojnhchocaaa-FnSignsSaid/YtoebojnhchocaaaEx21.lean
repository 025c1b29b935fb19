/- The functions that one law reaches, each as a Lean function, and that Go's call comes to what it says. Condition of each: that the Lean function answers (is not none). -/
import Derived.Test.YtoebojnhchocaaaEx0
import Derived.Test.YtoebojnhchocaaaEx1
import Derived.Test.YtoebojnhchocaaaEx8
import Derived.Test.YtoebojnhchocaaaEx9
import Derived.Test.YtoebojnhchocaaaEx10
import Derived.Test.YtoebojnhchocaaaEx16
namespace Go.Proofs.Ytoebojnhchocaaa.E
open Go.RowKit Go.Proofs.bY.apf Go.Proofs.bY.ko Go.Proofs.bY.kN
attribute [local go_sem] max2_int min2_int max_two min_two max_three min_three max_four min_four   -- for this text's walks alone
set_option linter.unusedVariables false
set_option linter.unusedSimpArgs false
set_option maxHeartbeats 8000000
set_option maxRecDepth 100000
/-! ### F208: function 208 -/
mutual
def jH.l0 : Nat → Int → List Int → Int → Int → List (List Int) → Int → List (List Int) → Option (Int × (List (List Int)) × Int × (List (List Int)))
 | 0,_,_,_,_,_,_,_=>none
 | k+1,x1,x2,x8,vt,tQ,Fw,CU=>if x8 < (x2.length:Int) then (jH.l1 k x1 x2 x8 (([]:List Int)) 0 vt tQ Fw CU) else (some (vt,tQ,Fw,CU))
def jH.l1 : Nat → Int → List Int → Int → List Int → Int → Int → List (List Int) → Int → List (List Int) → Option (Int × (List (List Int)) × Int × (List (List Int)))
 | 0,_,_,_,_,_,_,_,_,_=>none
 | k+1,x1,x2,x8,x9,fS,vt,tQ,Fw,CU=>if fS < x1 then (if 0≤x8 then (if x8 < (x2.length:Int) then (if x1=0 then (none) else (if x9.length < 17592186044416 then (jH.l1 k x1 x2 x8 (x9 ++ [Int.tmod (wrap64 ((Int.tmod (wrap64 (fS+(rd x2 x8))) x1)+x1)) x1]) (wrap64 (fS+1)) vt tQ Fw CU) else (none))) else (none)) else (none)) else (if CU.length < 5864062014805 then (jH.l0 k x1 x2 (wrap64 (x8+1)) vt tQ Fw (CU ++ [x9])) else (none))
end
def jH.f (k:Nat) (ah:Int) (af:List (List Int)) (a1:Int) (l2:List Int):Option (Int × (List (List Int)) × Int × (List (List Int))):=(ie.f k ah af).bind fun fc=>(jH.l0 k a1 l2 0 fc.1 fc.2 a1 (([]:List (List Int))))
theorem jH.calls (k : Nat) (ah : Int) (aT : Option Addr) (aoW : Nat) (af : List (List Int)) (a1 : Int) (A2 : Option Addr) (c2 : Nat) (l2 : List Int) (r1 : Int) (r2 : List (List Int)) (r3 : Int) (r4 : List (List Int)) (w : World) (cR : Kd.C (Kd.slice 2 (Kd.int .i64)) w aT af.length af) (cX : af.length ≤ aoW) (su : Kd.C (Kd.int .i64) w A2 l2.length l2) (uC : l2.length ≤ c2) (h : jH.f k ah af a1 l2 = some (r1, r2, r3, r4)) :
  Calls Try.prog 208 #[.agg #[.int .i64 ah,.slice aT af.length aoW],.int .i64 a1,.slice A2 l2.length c2] w fun e w'=>∃ eM ny:Value,e=.returned (.agg #[.int .i64 r1,eM,.int .i64 r3,ny])∧Kd.S (Kd.slice 2 (Kd.int .i64)) 28 w' w.heap.size (fun k_=>some k_ ≠ (ny:Value).ownBlock) eM r2∧Kd.S (Kd.slice 2 (Kd.int .i64)) 28 w' w.heap.size (fun k_=>some k_ ≠ (eM:Value).ownBlock) ny r4∧Below w.heap.size w w':=by
 have iX:=Try.underlying31
 have wo:=Try.underlying33
 have ao6:=k0 cR
 have cV:=k0 cX
 clear cR cX
 have zx:=k0 su
 have wU:=k0 uC
 clear su uC
 have HB:=k0 (Below.refl w.heap.size w)
 have H:((ie.f k ah af).bind fun fc=>(jH.l0 k a1 l2 0 fc.1 fc.2 a1 (([]:List (List Int)))))=some (r1,r2,r3,r4):=h
 clear h
 replace H:=Option.bind_eq_some_iff.mp H
 obtain ⟨⟨t103,t104⟩,fu,H⟩:=H
 replace H:(jH.l0 k a1 l2 0 t103 t104 a1 (([]:List (List Int))))=some (r1,r2,r3,r4):=H
 have A4:=k0 fu
 clear fu
 obtain ⟨gF,mB⟩:∃ y_:List (List Int),y_=(([]:List (List Int))):=⟨_,rfl⟩
 replace H:(jH.l0 k a1 l2 0 t103 t104 a1 gF)=some (r1,r2,r3,r4):=rH mB H
 have ri:=k0 mB
 clear mB
 have H':=k0 H
 clear H
 go_enter Try.func208,Try.ntmps208
 go_wp2_with (first|((with_reducible refine bp (N:=3) rfl ?_);refine bR 3 #[.int .i64 ah,.slice aT af.length aoW] 31 ?_;intro aoV hg w5 aE hb;have aa:=k0 (aE);have bB:=gW hg (aoS bl);have aX:=bB;replace HB:=k0 (aH bl hb);clear hb aE hg)|((with_reducible refine bp (N:=6) rfl ?_);refine bR 6 #[.int .i64 0,.slice none 0 0,.int .i64 0,.slice none 0 0] 33 ?_;intro ct hg w6 aE hb;have ak:=k0 (aE);have fA:=gW hg (aoS bl);have fy:=fA;replace HB:=k0 (aH bl hb);have cP:=nL hg aa;have dJ:=nG cP;replace aa:=kB aa hb;clear hb aE hg;have EN:=cP.z;have EO:=dJ.z;have BX:=aQ aa;have BZ:=aoT aa;have B7:=bF aa 0;have aqR:=bF aa 1)|((with_reducible refine bg (f:=231) rfl ?_);refine gC (some 12) Try.func231 #[.agg #[.int .i64 ah,.slice aT af.length aoW]] ?_;(with_reducible refine (ie.calls k ah _ _ af t103 t104 _ ?aoN ?aoP A4.z).mono ?_);(case aoN=>exact aC (Kd.ao4 ao6.z HB.z));(case aoP=>exact cV.z);rintro e w9 ⟨v105,rfl,aD,hb⟩;refine ⟨_,rfl,?_⟩;have aq:=k0 (Kd.ig aD (aoS bl));have au:=kB aa hb;have ax:=kB ak hb;have aA:=k0 (aH bl hb);clear aa;clear ak;clear HB;have gp:=aq;have aa:=au;have ak:=ax;have HB:=aA;clear aq au ax aA;)|((with_reducible refine bp (N:=14) rfl ?_);refine Kd.DH (Kd.slice 2 (Kd.int .i64)) _ 28 ?hg (N:=14) ?hd (xs:=([]:List (List Int))) (inner:=[]) (ok:=fun _=>True) (b_:=fun _=>True) ?hr ?hp (fun _ hk=>hk) trivial (Below.refl _ _) (Nat.le_refl _) (by simp) ?_;(case hd=>rfl);(case hg=>rfl);(case hr=>first|(go_simp;done)|(go_simp;rfl));(case hp=>exact (bh.none _ _));intro vo mH Cf hb cJ cK;clear cJ cK;(first|rw [← ri.z] at Cf|(simp only [Int.reduceToNat] at Cf;rw [← ri.z] at Cf));have aq:=k0 (Kd.cC (aS gp.z) (Kd.nZ Cf) hb);have au:=k0 (Kd.ig (Kd.kP Cf (Kd.ap6 (aS gp.z))) (aoS bl));have ax:=kB aa hb;have aA:=kB ak hb;have aG:=k0 (aH bl hb);clear gp;clear aa;clear ak;clear HB;have gp:=aq;have eB:=au;have aa:=ax;have ak:=aA;have HB:=aG;clear aq au ax aA aG;clear hb Cf;obtain ⟨dc,cW,uA⟩:=Kd.apc eB.z;subst uA;obtain ⟨iQ,iF,xg⟩:=Kd.apc gp.z;subst xg)|((with_reducible refine bp (N:=7) rfl ?_);refine bR 7 #[.int .i64 0,.slice none 0 0,.int .i64 0,.slice none 0 0] 33 ?_;intro rA hg tL aE hb;have aq:=k0 (Kd.gB (aS gp.z) hb);have au:=k0 (Kd.gB (aS eB.z) hb);have ax:=kB aa hb;have aA:=kB ak hb;have aG:=k0 (aH bl hb);have aM:=k0 (aE);have bu:=k0 ((by rw [hg];exact (aoS bl):w.heap.size≤rA));have cE:=k0 ((by rw [hg];exact (aoS bl):w.heap.size≤rA));have ao8:=nL hg aa;have cG:=nG ao8;have dy:=nL hg ak;have eD:=nG dy;clear gp;clear eB;clear aa;clear ak;clear HB;have gp:=aq;have eB:=au;have aa:=ax;have ak:=aA;have HB:=aG;have b9:=aM;have Oc:=bu;have Vw:=cE;have oK:=ao8;have wY:=cG;have yc:=dy;have JA:=eD;clear aq au ax aA aG aM bu cE ao8 cG dy eD;clear hb aE hg;have R4:=wY.z;have Sg:=oK.z;have R5:=JA.z;have Sh:=yc.z;have aaE:=aQ b9;have aaF:=aoT b9;have aii:=ao_ b9;have aij:=ec b9;have abp:=bF b9 0;have abq:=bF b9 1;have aks:=bF b9 2;have akt:=bF b9 3))
 go_loopg [8] k (fun kq v8 w'=>∃ (bw:Int) (tT:List (List Int)) (u111003:Value),v8=.int .i64 bw∧aj (jH.l0 kq a1 l2 bw t103 t104 a1 tT=some (r1,r2,r3,r4))∧aj (kq≤k)∧aj (Kd.S (Kd.slice 2 (Kd.int .i64)) 28 w' w.heap.size (fun k_=>some k_ ≠ (u111003:Value).ownBlock) (.slice iQ t104.length iF) t104)∧aj (Kd.S (Kd.slice 2 (Kd.int .i64)) 28 w' w.heap.size (fun k_=>some k_ ≠ ((.slice iQ t104.length iF):Value).ownBlock) u111003 tT)∧aj (w'.heap[aoV]?=some (sO ah aT af aoW 31))∧aj (w'.heap[ct]?=some (.cells #[.int .i64 0,(.slice none 0 0),.int .i64 0,(.slice none 0 0)] 33 (0,0)))∧aj (w'.heap[rA]?=some (.cells #[.int .i64 t103,(.slice iQ t104.length iF),.int .i64 a1,u111003] 33 (0,0)))∧aj (Below w.heap.size w w'))
 case atStart=>exact ⟨(0),(gF),(.slice dc gF.length cW),rs,H',⟨Nat.le_refl _⟩,⟨aS (Kd.bq (gS 3 (.slice dc gF.length cW) (gS 2 (.int .i64 a1) (gS 1 (.slice iQ t104.length iF) (gS 0 (.int .i64 t103) (tS gp b9))))) (fun _ hk=>hk.1.2))⟩,⟨aS (Kd.bq (gS 3 (.slice dc gF.length cW) (gS 2 (.int .i64 a1) (gS 1 (.slice iQ t104.length iF) (gS 0 (.int .i64 t103) (tS eB b9))))) (fun _ hk=>hk.1.2))⟩,⟨by (with_reducible repeat (first|refine aoU ?_ _|refine aJ ?_|refine aoQ ?_ _));refine bW ?_ oK.z _;(with_reducible repeat (first|refine aoU ?_ _|refine aJ ?_|refine aoQ ?_ _));refine bW ?_ oK.z _;(with_reducible repeat (first|refine aoU ?_ _|refine aJ ?_|refine aoQ ?_ _));refine bW ?_ oK.z _;(with_reducible repeat (first|refine aoU ?_ _|refine aJ ?_|refine aoQ ?_ _));refine bW ?_ oK.z _;exact bk⟩,⟨by (with_reducible repeat (first|refine aoU ?_ _|refine aJ ?_|refine aoQ ?_ _));refine bW ?_ yc.z _;(with_reducible repeat (first|refine aoU ?_ _|refine aJ ?_|refine aoQ ?_ _));refine bW ?_ yc.z _;(with_reducible repeat (first|refine aoU ?_ _|refine aJ ?_|refine aoQ ?_ _));refine bW ?_ yc.z _;(with_reducible repeat (first|refine aoU ?_ _|refine aJ ?_|refine aoQ ?_ _));refine bW ?_ yc.z _;exact bk⟩,⟨by (with_reducible repeat (first|refine aoU ?_ _|refine aJ ?_|refine aoQ ?_ _));refine bE (cs:=#[.int .i64 t103,.slice iQ t104.length iF,.int .i64 a1,.slice none 0 0]) ?_ 3 _ rfl;(with_reducible repeat (first|refine aoU ?_ _|refine aJ ?_|refine aoQ ?_ _));refine bE (cs:=#[.int .i64 t103,.slice iQ t104.length iF,.int .i64 0,.slice none 0 0]) ?_ 2 _ rfl;(with_reducible repeat (first|refine aoU ?_ _|refine aJ ?_|refine aoQ ?_ _));refine bE (cs:=#[.int .i64 t103,.slice none 0 0,.int .i64 0,.slice none 0 0]) ?_ 1 _ rfl;(with_reducible repeat (first|refine aoU ?_ _|refine aJ ?_|refine aoQ ?_ _));refine bE (cs:=#[.int .i64 0,.slice none 0 0,.int .i64 0,.slice none 0 0]) ?_ 0 _ rfl;exact bk⟩,⟨bl⟩⟩
 case round =>
  clear H'
  obtain ⟨bw,tT,u111003,rfl,HA,bx,fC,oJ,aa,ak,b9,HB⟩:=hrel
  cases gk with
  | zero=>exact absurd HA.z (by simp [jH.l0])
  | succ k1 =>
   have H:=HA.z
   clear HA
   simp only [jH.l0] at H
   by_cases c18:bw < (l2.length:Int)
   case neg =>
    rw [if_neg c18] at H
    have apY:decide (bw < (l2.length:Int))=false:=decide_eq_false c18
    clear c18
    simp only [Option.some.injEq,Prod.mk.injEq] at H
    obtain ⟨rfl,rfl,rfl,rfl⟩:=H
    have Lx:=wY.z
    have LB:=oK.z
    have amJ:=JA.z
    have ans:=yc.z
    have aiC:=aQ b9
    have aiD:=aoT b9
    have aiE:=ao_ b9
    have aiF:=ec b9
    have akM:=bF b9 0
    have akN:=bF b9 1
    have akO:=bF b9 2
    have akP:=bF b9 3
    have Ly:=dJ.z
    have LC:=cP.z
    have KT:=aQ ak
    have KU:=aoT ak
    have aaQ:=ao_ ak
    have aaR:=ec ak
    have Le:=bF ak 0
    have Lf:=bF ak 1
    have abC:=bF ak 2
    have abD:=bF ak 3
    obtain ⟨Bg,BJ,J'⟩:=Kd.apc oJ.z
    subst J'
    go_wp2
    refine bodyPost_ret (results_cell_row rfl _ _ ct 33 #[.int .i64 t103,.slice iQ t104.length iF,.int .i64 a1,.slice Bg tT.length BJ] (0,0) _ rfl (by (with_reducible repeat (first|refine aoU ?_ _|refine aJ ?_|refine aoQ ?_ _));refine bE (cs:=#[.int .i64 t103,.slice iQ t104.length iF,.int .i64 a1,.slice none 0 0]) ?_ 3 _ rfl;(with_reducible repeat (first|refine aoU ?_ _|refine aJ ?_|refine aoQ ?_ _));refine bE (cs:=#[.int .i64 t103,.slice iQ t104.length iF,.int .i64 0,.slice none 0 0]) ?_ 2 _ rfl;(with_reducible repeat (first|refine aoU ?_ _|refine aJ ?_|refine aoQ ?_ _));refine bE (cs:=#[.int .i64 t103,.slice none 0 0,.int .i64 0,.slice none 0 0]) ?_ 1 _ rfl;(with_reducible repeat (first|refine aoU ?_ _|refine aJ ?_|refine aoQ ?_ _));refine bE (cs:=#[.int .i64 0,.slice none 0 0,.int .i64 0,.slice none 0 0]) ?_ 0 _ rfl;exact bk) Try.underlying33 rfl (by kernel_rfl)) rfl ?_
    exact ⟨_,_,eR,by (with_reducible repeat (first|apply Kd.cM|apply Kd.cI|apply Kd.cr));exact Kd.bq (gS 3 (.slice Bg tT.length BJ) (gS 2 (.int .i64 a1) (gS 1 (.slice iQ t104.length iF) (gS 0 (.int .i64 t103) (tS fC ak))))) (fun _ hk=>hk.1),by (with_reducible repeat (first|apply Kd.cM|apply Kd.cI|apply Kd.cr));exact Kd.bq (gS 3 (.slice Bg tT.length BJ) (gS 2 (.int .i64 a1) (gS 1 (.slice iQ t104.length iF) (gS 0 (.int .i64 t103) (tS oJ ak))))) (fun _ hk=>hk.1),bl⟩
   rw [if_pos c18] at H
   have apY:=decide_eq_true c18
   clear c18
   obtain ⟨qu,oo⟩:∃ y_:List Int,y_=(([]:List Int)):=⟨_,rfl⟩
   replace H:(jH.l1 k1 a1 l2 bw qu 0 t103 t104 a1 tT)=some (r1,r2,r3,r4):=rH oo H
   have vO:=k0 oo
   clear oo
   have H':=k0 H
   clear H
   go_wp2_with (first|((with_reducible refine bp (N:=22) rfl ?_);refine Kd.jr (Kd.int .i64) _ 2 ?hg (N:=22) ?hd (xs:=([]:List Int)) (inner:=[]) (ok:=fun _=>True) (b_:=fun _=>True) ?hr ?hp (fun _ hk=>hk) trivial (Below.refl _ _) (Nat.le_refl _) (by simp) ?_;(case hd=>rfl);(case hg=>rfl);(case hr=>first|(go_simp;done)|(go_simp;rfl));(case hp=>exact (bh.none _ _));intro Fl CM qf hb cJ cK;clear cJ cK;(first|rw [← vO.z] at qf|(simp only [Int.reduceToNat] at qf;rw [← vO.z] at qf));have aq:=k0 (Kd.cC (aS fC.z) (Kd.aU qf) hb);have au:=k0 (Kd.cC (aS oJ.z) (Kd.aU qf) hb);have ax:=k0 (Kd.cU qf (aoS bl));have aA:=kB aa hb;have aG:=kB ak hb;have aM:=kB b9 hb;have bu:=k0 (aH bl hb);clear fC;clear oJ;clear aa;clear ak;clear b9;clear HB;have fC:=aq;have oJ:=au;have oI:=ax;have aa:=aA;have ak:=aG;have b9:=aM;have HB:=bu;clear aq au ax aA aG aM bu;clear hb qf))
   go_loopg [9,10] k1 (fun kq v9 v10 w'=>∃ (gM:List Int) (gz:Int),v10=.int .i64 gz∧aj (jH.l1 kq a1 l2 bw gM gz t103 t104 a1 tT=some (r1,r2,r3,r4))∧aj (kq≤k1)∧aj (Kd.R (Kd.int .i64) 2 w' w.heap.size (fun _=>True) v9 gM)∧aj (Kd.S (Kd.slice 2 (Kd.int .i64)) 28 w' w.heap.size (fun k_=>some k_ ≠ (v9:Value).ownBlock∧some k_ ≠ (u111003:Value).ownBlock) (.slice iQ t104.length iF) t104)∧aj (Kd.S (Kd.slice 2 (Kd.int .i64)) 28 w' w.heap.size (fun k_=>some k_ ≠ (v9:Value).ownBlock∧some k_ ≠ ((.slice iQ t104.length iF):Value).ownBlock) u111003 tT)∧aj (w'.heap[aoV]?=some (sO ah aT af aoW 31))∧aj (w'.heap[ct]?=some (.cells #[.int .i64 0,(.slice none 0 0),.int .i64 0,(.slice none 0 0)] 33 (0,0)))∧aj (w'.heap[rA]?=some (.cells #[.int .i64 t103,(.slice iQ t104.length iF),.int .i64 a1,u111003] 33 (0,0)))∧aj (Below w.heap.size w w'))
   case atStart=>exact ⟨(qu),(0),rs,H',⟨Nat.le_refl _⟩,⟨aR (oI.z)⟩,⟨aS (Kd.bq fC.z (fun _ hk=>⟨hk.2,hk.1⟩))⟩,⟨aS (Kd.bq oJ.z (fun _ hk=>⟨hk.2,hk.1⟩))⟩,⟨bk⟩,⟨bk⟩,⟨bk⟩,⟨bl⟩⟩
   case round =>
    clear H'
    obtain ⟨gM,gz,rfl,HA,cD,wW,fC,oJ,aa,ak,b9,HB⟩:=hrel
    cases gk with
    | zero=>exact absurd HA.z (by simp [jH.l1])
    | succ k2 =>
     have H:=HA.z
     clear HA
     simp only [jH.l1] at H
     by_cases c21:gz < a1
     case neg =>
      rw [if_neg c21] at H
      have yl:decide (gz < a1)=false:=decide_eq_false c21
      clear c21
      replace H:=iS H;obtain ⟨c27,H⟩:=H
      have Wd:=k0 c27
      clear c27
      obtain ⟨sL,uR⟩:∃ y_:List (List Int),y_=(tT ++ [gM]):=⟨_,rfl⟩
      replace H:(jH.l0 k2 a1 l2 (wrap64 (bw+1)) t103 t104 a1 sL)=some (r1,r2,r3,r4):=rH uR H
      have DA:=k0 uR
      clear uR
      have H':=k0 H
      clear H
      have Sa:=wY.z
      have Sn:=oK.z
      have Lw:=JA.z
      have LA:=yc.z
      have Ra:=aQ b9
      have Rb:=aoT b9
      have ais:=ao_ b9
      have ait:=ec b9
      have Rv:=bF b9 0
      have Rw:=bF b9 1
      have akC:=bF b9 2
      have akD:=bF b9 3
      obtain ⟨rN,rz,aqC⟩:=Kd.dM wW.z
      subst aqC
      go_wp2_with (first|((with_reducible refine kQ (b:=.append) (xs:=#[.tmp 44,.tmp 46]) rfl ?_);at_builtin;refine Kd.uj (Kd.slice 2 (Kd.int .i64)) (w0:=w) w.heap.size rfl (.tmp 44) (.tmp 46) 22 28 (.slice none 0 0) 24 rfl Try.underlying22 qX rfl (by decide) (by omega) u111003 tT gM [.slice rN gM.length rz] (fun k_=>some k_ ≠ (.slice iQ t104.length iF:Value).ownBlock) (fun k_=>some k_=(.slice rN gM.length rz:Value).ownBlock) rfl rfl ?aP (fun k_ bZ=>((Kd.aoY (ok':=fun k_=>((fun k_=>some k_ ≠ (.slice iQ t104.length iF:Value).ownBlock)) k_∧some k_ ≠ (u111003:Value).ownBlock) (Kd.iU (Kd.iU (wW.z) (Kd.iE fC.z) (by decide)) (Kd.iE oJ.z) (by decide)) (fun k_ hk=>⟨hk.1.2,hk.2⟩))).1 k_ bZ.symm) ?aF ?aO ?aB ?aS ?aL ?_;(case aP=>exact Kd.apB (Kd.aoY (Kd.mh rfl (Kd.aoY (ok':=fun k_=>((fun k_=>some k_ ≠ (.slice iQ t104.length iF:Value).ownBlock)) k_∧some k_ ≠ (u111003:Value).ownBlock) (Kd.iU (Kd.iU (wW.z) (Kd.iE fC.z) (by decide)) (Kd.iE oJ.z) (by decide)) (fun k_ hk=>⟨hk.1.2,hk.2⟩))) (fun _ h_=>h_)));(case aB=>exact bl);(case aF=>exact (fun k_ hk=>Kd.fresh' (Kd.ap6 (aS fC.z)) k_ hk));(case aO=>exact (by (with_reducible repeat (first|apply Kd.cM|apply Kd.cI|apply Kd.cr));exact Kd.bq oJ.z (fun k_ hk=>⟨hk.2,fun e_=>hk.1 e_⟩)));(case aS=>exact (aoS bl));(case aL=>have:=Wd.out;omega);intro Ua CP ho hb hg ao1;rw [← DA.z] at ho;have aq:=k0 (Kd.apW (ok:=(fun k_=>some k_ ≠ (.slice rN gM.length rz:Value).ownBlock)) (aS fC.z) hg ao1);have au:=k0 (fl (aB aa.z) hg (Kd.jz oJ.z aa.z (by decide)));have ax:=k0 (fl (aB ak.z) hg (Kd.jz oJ.z ak.z (by decide)));have aA:=k0 (fl (aB b9.z) hg (Kd.jz oJ.z b9.z (by decide)));have aG:=k0 (hb);have aM:=k0 (ho);clear fC;clear aa;clear ak;clear b9;clear HB;clear oJ;clear wW;have fC:=aq;have aa:=au;have ak:=ax;have b9:=aA;have HB:=aG;have aqw:=aM;clear aq au ax aA aG aM;clear ho hb hg ao1;obtain ⟨Bf,BI,D6⟩:=Kd.apc aqw.z;subst D6;have GF:=aQ b9;have GG:=aoT b9;have aaO:=ao_ b9;have aaP:=ec b9;have GQ:=bF b9 0;have GR:=bF b9 1;have abA:=bF b9 2;have abB:=bF b9 3))
      go_roundg k2
      case measure=>have:=bx.z;have:=cD.z;omega
      case rel=>exact ⟨(wrap64 (bw+1)),(sL),(.slice Bf sL.length BI),rs,H',⟨by have:=bx.z;have:=cD.z;omega⟩,⟨aS (Kd.bq (gS 3 (.slice Bf sL.length BI) (tS fC b9)) (fun _ hk=>hk.1.2))⟩,⟨aS (Kd.bq (gS 3 (.slice Bf sL.length BI) (tS aqw b9)) (fun _ hk=>hk.1))⟩,⟨by (with_reducible repeat (first|refine aoU ?_ _|refine aJ ?_|refine aoQ ?_ _));refine bW ?_ oK.z _;exact bk⟩,⟨by (with_reducible repeat (first|refine aoU ?_ _|refine aJ ?_|refine aoQ ?_ _));refine bW ?_ yc.z _;exact bk⟩,⟨by (with_reducible repeat (first|refine aoU ?_ _|refine aJ ?_|refine aoQ ?_ _));refine bE (cs:=#[.int .i64 t103,.slice iQ t104.length iF,.int .i64 a1,u111003]) ?_ 3 _ rfl;exact bk⟩,⟨bl⟩⟩
     rw [if_pos c21] at H
     have yl:=decide_eq_true c21
     clear c21
     replace H:=iS H;obtain ⟨c22,H⟩:=H
     have DS:=decide_eq_true c22
     clear c22
     replace H:=iS H;obtain ⟨c23,H⟩:=H
     have DT:=decide_eq_true c23
     clear c23
     by_cases c24:a1=0
     case neg =>
      rw [if_neg c24] at H
      have BB:(a1 == 0)=false:=beq_eq_false_iff_ne.mpr c24
      have Gi:(a1 != 0)=true:=bne_iff_ne.mpr c24
      replace H:=iS H;obtain ⟨c25,H⟩:=H
      have Ju:=k0 c25
      clear c25
      obtain ⟨nD,ot⟩:∃ y_:List Int,y_=(gM ++ [Int.tmod (wrap64 ((Int.tmod (wrap64 (gz+(rd l2 bw))) a1)+a1)) a1]):=⟨_,rfl⟩
      replace H:(jH.l1 k2 a1 l2 bw nD (wrap64 (gz+1)) t103 t104 a1 tT)=some (r1,r2,r3,r4):=rH ot H
      have vQ:=k0 ot
      clear ot
      have H':=k0 H
      clear H
      have AJ:0≤(bw:Int):=oD
      have AO:bw < (l2.length:Int):=oD
      obtain ⟨W3,e114,At⟩:=Kd.cN zx.z bw AJ AO
      cases e114
      replace At:=hbc HB At
      replace AJ:=eq_true AJ
      replace AO:=eq_true AO
      go_wp2_with (first|((with_reducible refine kQ (b:=.append) (xs:=#[.tmp 28,.tmp 41]) rfl ?_);at_builtin;refine Kd.p9 (Kd.int .i64) (w0:=w) w.heap.size rfl (.tmp 28) (.tmp 41) 28 2 (.int .i64 0) 8 rfl Try.underlying28 mR rfl (by decide) (by omega) u9 gM (Int.tmod (wrap64 ((Int.tmod (wrap64 (gz+(rd l2 bw))) a1)+a1)) a1) [.int .i64 (Int.tmod (wrap64 ((Int.tmod (wrap64 (gz+(rd l2 bw))) a1)+a1)) a1)] (fun _=>True) (fun _=>False) rfl rfl ?aP (fun _ hk=>hk.elim) ?aF ?aO ?aB ?aS ?aL ?_;(case aP=>exact rfl);(case aB=>exact bl);(case aF=>exact (fun _ _=>trivial));(case aO=>exact (aR wW.z));(case aS=>exact (aoS bl));(case aL=>have:=Ju.out;omega);intro Nj aqF ho hb hg ao1;rw [← vQ.z] at ho;have aq:=k0 (Kd.apW (ok:=(fun k_=>some k_ ≠ (u111003:Value).ownBlock)) (by (with_reducible repeat (first|apply Kd.cM|apply Kd.cI|apply Kd.cr));exact Kd.bq fC.z (fun _ hk=>⟨hk.2,hk.1⟩)) hg ao1);have au:=k0 (Kd.apW (ok:=(fun k_=>some k_ ≠ (.slice iQ t104.length iF:Value).ownBlock)) (by (with_reducible repeat (first|apply Kd.cM|apply Kd.cI|apply Kd.cr));exact Kd.bq oJ.z (fun _ hk=>⟨hk.2,hk.1⟩)) hg ao1);have ax:=k0 (fl (aB aa.z) hg (Kd.kr wW.z aa.z (by decide)));have aA:=k0 (fl (aB ak.z) hg (Kd.kr wW.z ak.z (by decide)));have aG:=k0 (fl (aB b9.z) hg (Kd.kr wW.z b9.z (by decide)));have aM:=k0 (hb);have bu:=k0 (ho);clear fC;clear oJ;clear aa;clear ak;clear b9;clear HB;clear wW;have fC:=aq;have oJ:=au;have aa:=ax;have ak:=aA;have b9:=aG;have HB:=aM;have sV:=bu;clear aq au ax aA aG aM bu;clear ho hb hg ao1))
      go_roundg k2
      case measure=>have:=bx.z;have:=cD.z;omega
      case rel=>exact ⟨(nD),(wrap64 (gz+1)),rs,H',⟨by have:=bx.z;have:=cD.z;omega⟩,⟨aR (sV.z)⟩,⟨aS (Kd.bq fC.z (fun _ hk=>⟨hk.2,hk.1⟩))⟩,⟨aS (Kd.bq oJ.z (fun _ hk=>⟨hk.2,hk.1⟩))⟩,⟨bk⟩,⟨bk⟩,⟨bk⟩,⟨bl⟩⟩
     rw [if_pos c24] at H
     exact absurd H (by simp)
/-! ### F140: function 140 -/
def oB.l0 : Nat → List Int → List Int → Int → Int → List (List Int) → Option (Int × (List (List Int)) × Int × (List (List Int)))
 | 0,_,_,_,_,_=>none
 | k+1,x1,x5,x6,fG,eH=>if x6 < (x1.length:Int) then (if 0≤x6 then (if x5.length < 17592186044416 then (oB.l0 k x1 (x5 ++ [wrap64 (Int.tdiv (wrap64 (1 - (rd x1 x6))) 2)]) (wrap64 (x6+1)) fG eH) else (none)) else (none)) else ((jH.f k fG eH 2 x5).bind fun gT=>(some (gT.1,gT.2.1,gT.2.2.1,gT.2.2.2)))
def oB.f (k:Nat) (ah:Int) (af:List (List Int)) (l1:List Int):Option (Int × (List (List Int)) × Int × (List (List Int))):=oB.l0 k l1 (([]:List Int)) 0 ah af
theorem oB.calls (k : Nat) (ah : Int) (aT : Option Addr) (aoW : Nat) (af : List (List Int)) (A1 : Option Addr) (c1 : Nat) (l1 : List Int) (r1 : Int) (r2 : List (List Int)) (r3 : Int) (r4 : List (List Int)) (w : World) (cR : Kd.C (Kd.slice 2 (Kd.int .i64)) w aT af.length af) (cX : af.length ≤ aoW) (fY : Kd.C (Kd.int .i64) w A1 l1.length l1) (gi : l1.length ≤ c1) (h : oB.f k ah af l1 = some (r1, r2, r3, r4)) :
  Calls Try.prog 140 #[.agg #[.int .i64 ah,.slice aT af.length aoW],.slice A1 l1.length c1] w fun e w'=>∃ eM ny:Value,e=.returned (.agg #[.int .i64 r1,eM,.int .i64 r3,ny])∧Kd.S (Kd.slice 2 (Kd.int .i64)) 28 w' w.heap.size (fun k_=>some k_ ≠ (ny:Value).ownBlock) eM r2∧Kd.S (Kd.slice 2 (Kd.int .i64)) 28 w' w.heap.size (fun k_=>some k_ ≠ (eM:Value).ownBlock) ny r4∧Below w.heap.size w w':=by
 have iX:=Try.underlying31
 have wo:=Try.underlying33
 have ao6:=k0 cR
 have cV:=k0 cX
 clear cR cX
 have gq:=k0 fY
 have lD:=k0 gi
 clear fY gi
 have HB:=k0 (Below.refl w.heap.size w)
 have H:(oB.l0 k l1 (([]:List Int)) 0 ah af)=some (r1,r2,r3,r4):=h
 clear h
 obtain ⟨aqM,Au⟩:∃ y_:List Int,y_=(([]:List Int)):=⟨_,rfl⟩
 replace H:(oB.l0 k l1 aqM 0 ah af)=some (r1,r2,r3,r4):=rH Au H
 have Dy:=k0 Au
 clear Au
 have H':=k0 H
 clear H
 go_enter Try.func140,Try.ntmps140
 go_wp2_with (first|((with_reducible refine bp (N:=2) rfl ?_);refine bR 2 #[.int .i64 ah,.slice aT af.length aoW] 31 ?_;intro aoV hg w3 aE hb;have aa:=k0 (aE);have bB:=gW hg (aoS bl);have aX:=bB;replace HB:=k0 (aH bl hb);clear hb aE hg)|((with_reducible refine bp (N:=4) rfl ?_);refine bR 4 #[.int .i64 0,.slice none 0 0,.int .i64 0,.slice none 0 0] 33 ?_;intro ct hg w4 aE hb;have ak:=k0 (aE);have fA:=gW hg (aoS bl);have fy:=fA;replace HB:=k0 (aH bl hb);have cP:=nL hg aa;have dJ:=nG cP;replace aa:=kB aa hb;clear hb aE hg)|((with_reducible refine bp (N:=7) rfl ?_);refine Kd.jr (Kd.int .i64) _ 2 ?hg (N:=7) ?hd (xs:=([]:List Int)) (inner:=[]) (ok:=fun _=>True) (b_:=fun _=>True) ?hr ?hp (fun _ hk=>hk) trivial (Below.refl _ _) (Nat.le_refl _) (by simp) ?_;(case hd=>rfl);(case hg=>rfl);(case hr=>first|(go_simp;done)|(go_simp;rfl));(case hp=>exact (bh.none _ _));intro tI w5 ER hb cJ cK;clear cJ cK;(first|rw [← Dy.z] at ER|(simp only [Int.reduceToNat] at ER;rw [← Dy.z] at ER));have aq:=k0 (Kd.cU ER (aoS bl));have au:=kB aa hb;have ax:=kB ak hb;have aA:=k0 (aH bl hb);clear aa;clear ak;clear HB;have apd:=aq;have aa:=au;have ak:=ax;have HB:=aA;clear aq au ax aA;clear hb ER))
 go_loopg [5,6] k (fun kq v5 v6 w'=>∃ (aY:List Int) (gY:Int),v6=.int .i64 gY∧aj (oB.l0 kq l1 aY gY ah af=some (r1,r2,r3,r4))∧aj (kq≤k)∧aj (Kd.R (Kd.int .i64) 2 w' w.heap.size (fun _=>True) v5 aY)∧aj (w'.heap[aoV]?=some (sO ah aT af aoW 31))∧aj (w'.heap[ct]?=some (.cells #[.int .i64 0,(.slice none 0 0),.int .i64 0,(.slice none 0 0)] 33 (0,0)))∧aj (Below w.heap.size w w'))
 case atStart=>exact ⟨(aqM),(0),rs,H',⟨Nat.le_refl _⟩,⟨aR (apd.z)⟩,⟨bk⟩,⟨bk⟩,⟨bl⟩⟩
 case round =>
  clear H'
  obtain ⟨aY,gY,rfl,HA,bx,aoX,aa,ak,HB⟩:=hrel
  cases gk with
  | zero=>exact absurd HA.z (by simp [oB.l0])
  | succ k1 =>
   have H:=HA.z
   clear HA
   simp only [oB.l0] at H
   by_cases c7:gY < (l1.length:Int)
   case neg =>
    rw [if_neg c7] at H
    have oO:decide (gY < (l1.length:Int))=false:=decide_eq_false c7
    clear c7
    replace H:=Option.bind_eq_some_iff.mp H
    obtain ⟨⟨t110,t111,t114,t115⟩,xP,H⟩:=H
    replace H:(some (t110,t111,t114,t115))=some (r1,r2,r3,r4):=H
    have CW:=k0 xP
    clear xP
    simp only [Option.some.injEq,Prod.mk.injEq] at H
    obtain ⟨rfl,rfl,rfl,rfl⟩:=H
    have R2:=cP.z
    have Se:=dJ.z
    have xm:=aQ aa
    have yA:=aoT aa
    have xo:=bF aa 0
    have yD:=bF aa 1
    obtain ⟨nS,og,zX⟩:=Kd.dM aoX.z
    subst zX
    go_wp2_with (first|((with_reducible refine bg (f:=208) rfl ?_);refine gC (some 25) Try.func208 #[.agg #[.int .i64 ah,.slice aT af.length aoW],.int .i64 2,.slice nS aY.length og] ?_;(with_reducible refine (jH.calls k1 ah _ _ af 2 _ _ aY t110 t111 t114 t115 _ ?aoN ?aoP ?bA ?bH CW.z).mono ?_);(case aoN=>exact aC (Kd.ao4 ao6.z HB.z));(case aoP=>exact cV.z);(case bA=>exact aC ((Kd.cx aoX.z).2.2));(case bH=>exact (Kd.cx aoX.z).2.1);rintro e qq ⟨Fl,Nj,rfl,aD,mA,hb⟩;refine ⟨_,rfl,?_⟩;have aq:=k0 (Kd.apn (aR aoX.z) hb);have au:=k0 (Kd.ig (Kd.kP aD (Kd.bT (aR aoX.z))) (aoS bl));have ax:=k0 (Kd.ig (Kd.kP mA (Kd.bT (aR aoX.z))) (aoS bl));have aA:=kB aa hb;have aG:=kB ak hb;have aM:=k0 (aH bl hb);clear aoX;clear aa;clear ak;clear HB;have aoX:=aq;have oI:=au;have sV:=ax;have aa:=aA;have ak:=aG;have HB:=aM;clear aq au ax aA aG aM;have BS:=aQ ak;have BU:=aoT ak;have aaC:=ao_ ak;have aaD:=ec ak;have B3:=bF ak 0;have aqP:=bF ak 1;have abn:=bF ak 2;have abo:=bF ak 3;obtain ⟨Be,aqB,BM⟩:=Kd.apc oI.z;subst BM;obtain ⟨wJ,vY,uB⟩:=Kd.apc sV.z;subst uB))
    refine bodyPost_ret (results_cell_row rfl _ _ ct 33 #[.int .i64 t110,.slice Be t111.length aqB,.int .i64 t114,.slice wJ t115.length vY] (0,0) _ rfl (by (with_reducible repeat (first|refine aoU ?_ _|refine aJ ?_|refine aoQ ?_ _));refine bE (cs:=#[.int .i64 t110,.slice Be t111.length aqB,.int .i64 t114,.slice none 0 0]) ?_ 3 _ rfl;(with_reducible repeat (first|refine aoU ?_ _|refine aJ ?_|refine aoQ ?_ _));refine bE (cs:=#[.int .i64 t110,.slice Be t111.length aqB,.int .i64 0,.slice none 0 0]) ?_ 2 _ rfl;(with_reducible repeat (first|refine aoU ?_ _|refine aJ ?_|refine aoQ ?_ _));refine bE (cs:=#[.int .i64 t110,.slice none 0 0,.int .i64 0,.slice none 0 0]) ?_ 1 _ rfl;(with_reducible repeat (first|refine aoU ?_ _|refine aJ ?_|refine aoQ ?_ _));refine bE (cs:=#[.int .i64 0,.slice none 0 0,.int .i64 0,.slice none 0 0]) ?_ 0 _ rfl;exact bk) Try.underlying33 rfl (by kernel_rfl)) rfl ?_
    exact ⟨_,_,eR,by (with_reducible repeat (first|apply Kd.cM|apply Kd.cI|apply Kd.cr));exact Kd.bq (gS 3 (.slice wJ t115.length vY) (gS 2 (.int .i64 t114) (gS 1 (.slice Be t111.length aqB) (gS 0 (.int .i64 t110) (tS oI ak))))) (fun _ hk=>hk.1.1),by (with_reducible repeat (first|apply Kd.cM|apply Kd.cI|apply Kd.cr));exact Kd.bq (gS 3 (.slice wJ t115.length vY) (gS 2 (.int .i64 t114) (gS 1 (.slice Be t111.length aqB) (gS 0 (.int .i64 t110) (tS sV ak))))) (fun _ hk=>hk.1.1),bl⟩
   rw [if_pos c7] at H
   have oO:=decide_eq_true c7
   clear c7
   replace H:=iS H;obtain ⟨c8,H⟩:=H
   have kH:=decide_eq_true c8
   clear c8
   replace H:=iS H;obtain ⟨c9,H⟩:=H
   have Wn:=k0 c9
   clear c9
   obtain ⟨gF,mB⟩:∃ y_:List Int,y_=(aY ++ [wrap64 (Int.tdiv (wrap64 (1 - (rd l1 gY))) 2)]):=⟨_,rfl⟩
   replace H:(oB.l0 k1 l1 gF (wrap64 (gY+1)) ah af)=some (r1,r2,r3,r4):=rH mB H
   have ri:=k0 mB
   clear mB
   have H':=k0 H
   clear H
   have apk:0≤(gY:Int):=oD
   have gL:gY < (l1.length:Int):=oD
   obtain ⟨pH,e106,gV⟩:=Kd.cN gq.z gY apk gL
   cases e106
   replace gV:=hbc HB gV
   replace apk:=eq_true apk
   replace gL:=eq_true gL
   go_wp2_with (first|((with_reducible refine kQ (b:=.append) (xs:=#[.tmp 14,.tmp 21]) rfl ?_);at_builtin;refine Kd.p9 (Kd.int .i64) (w0:=w) w.heap.size rfl (.tmp 14) (.tmp 21) 28 2 (.int .i64 0) 8 rfl Try.underlying28 mR rfl (by decide) (by omega) u5 aY (wrap64 (Int.tdiv (wrap64 (1 - (rd l1 gY))) 2)) [.int .i64 (wrap64 (Int.tdiv (wrap64 (1 - (rd l1 gY))) 2))] (fun _=>True) (fun _=>False) rfl rfl ?aP (fun _ hk=>hk.elim) ?aF ?aO ?aB ?aS ?aL ?_;(case aP=>exact rfl);(case aB=>exact bl);(case aF=>exact (fun _ _=>trivial));(case aO=>exact (aR aoX.z));(case aS=>exact (aoS bl));(case aL=>have:=Wn.out;omega);intro vo mH ho hb hg ao1;rw [← ri.z] at ho;have aq:=k0 (fl (aB aa.z) hg (Kd.kr aoX.z aa.z (by decide)));have au:=k0 (fl (aB ak.z) hg (Kd.kr aoX.z ak.z (by decide)));have ax:=k0 (hb);have aA:=k0 (ho);clear aa;clear ak;clear HB;clear aoX;have aa:=aq;have ak:=au;have HB:=ax;have eB:=aA;clear aq au ax aA;clear ho hb hg ao1))
   go_roundg k1
   case measure=>have:=bx.z;omega
   case rel=>exact ⟨(gF),(wrap64 (gY+1)),rs,H',⟨by have:=bx.z;omega⟩,⟨aR (eB.z)⟩,⟨bk⟩,⟨bk⟩,⟨bl⟩⟩
/-! ### F57: function 57 -/
def wP.f (k:Nat) (ah:Int) (af:List (List Int)) (l1:List Int):Option (Int × (List (List Int)) × Int × (List (List Int)) × Int):=(apx.f k ah af l1).bind fun t103=>(if t103=0 then ((oB.f k ah af l1).bind fun iM=>(some (iM.1,iM.2.1,iM.2.2.1,iM.2.2.2,0))) else (some (0,([]:List (List Int)),0,([]:List (List Int)),t103)))
theorem wP.calls (k : Nat) (ah : Int) (aT : Option Addr) (aoW : Nat) (af : List (List Int)) (A1 : Option Addr) (c1 : Nat) (l1 : List Int) (r1 : Int) (r2 : List (List Int)) (r3 : Int) (r4 : List (List Int)) (r5 : Int) (w : World) (cR : Kd.C (Kd.slice 2 (Kd.int .i64)) w aT af.length af) (cX : af.length ≤ aoW) (fY : Kd.C (Kd.int .i64) w A1 l1.length l1) (gi : l1.length ≤ c1) (h : wP.f k ah af l1 = some (r1, r2, r3, r4, r5)) :
  Calls Try.prog 57 #[.agg #[.int .i64 ah,.slice aT af.length aoW],.slice A1 l1.length c1] w fun e w'=>∃ eM ny:Value,e=.returned (.tuple #[.agg #[.int .i64 r1,eM,.int .i64 r3,ny],.int .i64 r5])∧Kd.S (Kd.slice 2 (Kd.int .i64)) 28 w' w.heap.size (fun k_=>some k_ ≠ (ny:Value).ownBlock) eM r2∧Kd.S (Kd.slice 2 (Kd.int .i64)) 28 w' w.heap.size (fun k_=>some k_ ≠ (eM:Value).ownBlock) ny r4∧Below w.heap.size w w':=by
 have iX:=Try.underlying31
 have wo:=Try.underlying33
 have ao6:=k0 cR
 have cV:=k0 cX
 clear cR cX
 have gq:=k0 fY
 have lD:=k0 gi
 clear fY gi
 have HB:=k0 (Below.refl w.heap.size w)
 have H:((apx.f k ah af l1).bind fun t103=>(if t103=0 then ((oB.f k ah af l1).bind fun iM=>(some (iM.1,iM.2.1,iM.2.2.1,iM.2.2.2,0))) else (some (0,([]:List (List Int)),0,([]:List (List Int)),t103))))=some (r1,r2,r3,r4,r5):=h
 clear h
 replace H:=Option.bind_eq_some_iff.mp H
 obtain ⟨t103,fJ,H⟩:=H
 replace H:(if t103=0 then ((oB.f k ah af l1).bind fun iM=>(some (iM.1,iM.2.1,iM.2.2.1,iM.2.2.2,0))) else (some (0,([]:List (List Int)),0,([]:List (List Int)),t103)))=some (r1,r2,r3,r4,r5):=H
 have A3:=k0 fJ
 clear fJ
 by_cases c4:t103=0
 case neg =>
  rw [if_neg c4] at H
  have fX:(t103 == 0)=false:=beq_eq_false_iff_ne.mpr c4
  have qa:(t103 != 0)=true:=bne_iff_ne.mpr c4
  simp only [Option.some.injEq,Prod.mk.injEq] at H
  obtain ⟨rfl,rfl,rfl,rfl,rfl⟩:=H
  go_enter Try.func57,Try.ntmps57
  go_wp2_with (first|((with_reducible refine bp (N:=2) rfl ?_);refine bR 2 #[.int .i64 ah,.slice aT af.length aoW] 31 ?_;intro aoV hg xE aE hb;have aa:=k0 (aE);have bB:=gW hg (aoS bl);have aX:=bB;replace HB:=k0 (aH bl hb);clear hb aE hg)|((with_reducible refine bp (N:=4) rfl ?_);refine bR 4 #[.int .i64 0,.slice none 0 0,.int .i64 0,.slice none 0 0] 33 ?_;intro ct hg xF aE hb;have ak:=k0 (aE);have fA:=gW hg (aoS bl);have fy:=fA;replace HB:=k0 (aH bl hb);have cP:=nL hg aa;have dJ:=nG cP;replace aa:=kB aa hb;clear hb aE hg;have R6:=cP.z;have Si:=dJ.z;have BV:=aQ aa;have BW:=aoT aa;have aqQ:=bF aa 0;have B6:=bF aa 1)|((with_reducible refine bg (f:=134) rfl ?_);refine gC (some 9) Try.func134 #[.agg #[.int .i64 ah,.slice aT af.length aoW],.slice A1 l1.length c1] ?_;(with_reducible refine (apx.calls k ah _ _ af _ _ l1 t103 _ ?aoN ?aoP ?bA ?bH A3.z).mono ?_);(case aoN=>exact aC (Kd.ao4 ao6.z HB.z));(case aoP=>exact cV.z);(case bA=>exact aC (Kd.ao4 gq.z HB.z));(case bH=>exact lD.z);rintro e aqf ⟨rfl,hb⟩;refine ⟨_,rfl,?_⟩;have aq:=kB aa hb;have au:=kB ak hb;have ax:=k0 (aH bl hb);clear aa;clear ak;clear HB;have aa:=aq;have ak:=au;have HB:=ax;clear aq au ax;have GC:=aQ ak;have GD:=aoT ak;have aaG:=ao_ ak;have aaH:=ec ak;have GO:=bF ak 0;have GP:=bF ak 1;have abr:=bF ak 2;have abt:=bF ak 3))
  refine bodyPost_ret (apP rfl _ _ ct 33 #[.int .i64 0,.slice none 0 0,.int .i64 0,.slice none 0 0] (0,0) _ rfl (by (with_reducible repeat (first|refine aoU ?_ _|refine aJ ?_|refine aoQ ?_ _));refine bE (cs:=#[.int .i64 0,.slice none 0 0,.int .i64 0,.slice none 0 0]) ?_ 3 _ rfl;(with_reducible repeat (first|refine aoU ?_ _|refine aJ ?_|refine aoQ ?_ _));refine bE (cs:=#[.int .i64 0,.slice none 0 0,.int .i64 0,.slice none 0 0]) ?_ 2 _ rfl;(with_reducible repeat (first|refine aoU ?_ _|refine aJ ?_|refine aoQ ?_ _));refine bE (cs:=#[.int .i64 0,.slice none 0 0,.int .i64 0,.slice none 0 0]) ?_ 1 _ rfl;(with_reducible repeat (first|refine aoU ?_ _|refine aJ ?_|refine aoQ ?_ _));refine bE (cs:=#[.int .i64 0,.slice none 0 0,.int .i64 0,.slice none 0 0]) ?_ 0 _ rfl;exact bk) Try.underlying33 rfl (by kernel_rfl)) rfl ?_
  exact ⟨_,_,eR,by first|exact Kd.lf _ _ _ _ _|exact Kd.lG _ _ _ _ _|exact Kd.apy _ _ _ _ _|exact Kd.lH _ _ _ _ _|exact Kd.kO _ _ _ _ _,by first|exact Kd.lf _ _ _ _ _|exact Kd.lG _ _ _ _ _|exact Kd.apy _ _ _ _ _|exact Kd.lH _ _ _ _ _|exact Kd.kO _ _ _ _ _,bl⟩
 rw [if_pos c4] at H
 have fX:(t103 == 0)=true:=beq_iff_eq.mpr c4
 have qa:(t103 != 0)=false:=bne_eq_false_iff_eq.mpr c4
 clear c4
 replace H:=Option.bind_eq_some_iff.mp H
 obtain ⟨⟨t104,t105,t108,t109⟩,kC,H⟩:=H
 replace H:(some (t104,t105,t108,t109,0))=some (r1,r2,r3,r4,r5):=H
 have A5:=k0 kC
 clear kC
 simp only [Option.some.injEq,Prod.mk.injEq] at H
 obtain ⟨rfl,rfl,rfl,rfl,rfl⟩:=H
 go_enter Try.func57,Try.ntmps57
 go_wp2_with (first|((with_reducible refine bp (N:=2) rfl ?_);refine bR 2 #[.int .i64 ah,.slice aT af.length aoW] 31 ?_;intro aoV hg w6 aE hb;have aa:=k0 (aE);have bB:=gW hg (aoS bl);have aX:=bB;replace HB:=k0 (aH bl hb);clear hb aE hg)|((with_reducible refine bp (N:=4) rfl ?_);refine bR 4 #[.int .i64 0,.slice none 0 0,.int .i64 0,.slice none 0 0] 33 ?_;intro ct hg w7 aE hb;have ak:=k0 (aE);have fA:=gW hg (aoS bl);have fy:=fA;replace HB:=k0 (aH bl hb);have cP:=nL hg aa;have dJ:=nG cP;replace aa:=kB aa hb;clear hb aE hg;have Cb:=cP.z;have Cd:=dJ.z;have v_:=aQ aa;have we:=aoT aa;have xp:=bF aa 0;have wh:=bF aa 1)|((with_reducible refine bg (f:=134) rfl ?_);refine gC (some 9) Try.func134 #[.agg #[.int .i64 ah,.slice aT af.length aoW],.slice A1 l1.length c1] ?_;(with_reducible refine (apx.calls k ah _ _ af _ _ l1 t103 _ ?aoN ?aoP ?bA ?bH A3.z).mono ?_);(case aoN=>exact aC (Kd.ao4 ao6.z HB.z));(case aoP=>exact cV.z);(case bA=>exact aC (Kd.ao4 gq.z HB.z));(case bH=>exact lD.z);rintro e mH ⟨rfl,hb⟩;refine ⟨_,rfl,?_⟩;have aq:=kB aa hb;have au:=kB ak hb;have ax:=k0 (aH bl hb);clear aa;clear ak;clear HB;have aa:=aq;have ak:=au;have HB:=ax;clear aq au ax;have BQ:=aQ aa;have BR:=aoT aa;have aqO:=bF aa 0;have B2:=bF aa 1)|((with_reducible refine bg (f:=140) rfl ?_);refine gC (some 16) Try.func140 #[.agg #[.int .i64 ah,.slice aT af.length aoW],.slice A1 l1.length c1] ?_;(with_reducible refine (oB.calls k ah _ _ af _ _ l1 t104 t105 t108 t109 _ ?aoN ?aoP ?bA ?bH A5.z).mono ?_);(case aoN=>exact aC (Kd.ao4 ao6.z HB.z));(case aoP=>exact cV.z);(case bA=>exact aC (Kd.ao4 gq.z HB.z));(case bH=>exact lD.z);rintro e vq ⟨vn,wD,rfl,aD,mA,hb⟩;refine ⟨_,rfl,?_⟩;have aq:=k0 (Kd.ig aD (aoS bl));have au:=k0 (Kd.ig mA (aoS bl));have ax:=kB aa hb;have aA:=kB ak hb;have aG:=k0 (aH bl hb);clear aa;clear ak;clear HB;have eP:=aq;have nT:=au;have aa:=ax;have ak:=aA;have HB:=aG;clear aq au ax aA aG;have xm:=aQ ak;have yA:=aoT ak;have Q7:=ao_ ak;have Q8:=ec ak;have xo:=bF ak 0;have yD:=bF ak 1;have Rq:=bF ak 2;have Rs:=bF ak 3;obtain ⟨nS,og,zX⟩:=Kd.apc eP.z;subst zX;obtain ⟨zf,zR,D5⟩:=Kd.apc nT.z;subst D5))
 refine bodyPost_ret (apP rfl _ _ ct 33 #[.int .i64 t104,.slice nS t105.length og,.int .i64 t108,.slice zf t109.length zR] (0,0) _ rfl (by (with_reducible repeat (first|refine aoU ?_ _|refine aJ ?_|refine aoQ ?_ _));refine bE (cs:=#[.int .i64 t104,.slice nS t105.length og,.int .i64 t108,.slice none 0 0]) ?_ 3 _ rfl;(with_reducible repeat (first|refine aoU ?_ _|refine aJ ?_|refine aoQ ?_ _));refine bE (cs:=#[.int .i64 t104,.slice nS t105.length og,.int .i64 0,.slice none 0 0]) ?_ 2 _ rfl;(with_reducible repeat (first|refine aoU ?_ _|refine aJ ?_|refine aoQ ?_ _));refine bE (cs:=#[.int .i64 t104,.slice none 0 0,.int .i64 0,.slice none 0 0]) ?_ 1 _ rfl;(with_reducible repeat (first|refine aoU ?_ _|refine aJ ?_|refine aoQ ?_ _));refine bE (cs:=#[.int .i64 0,.slice none 0 0,.int .i64 0,.slice none 0 0]) ?_ 0 _ rfl;exact bk) Try.underlying33 rfl (by kernel_rfl)) rfl ?_
 exact ⟨_,_,eR,by (with_reducible repeat (first|apply Kd.cM|apply Kd.cI|apply Kd.cr));exact Kd.bq (gS 3 (.slice zf t109.length zR) (gS 2 (.int .i64 t108) (gS 1 (.slice nS t105.length og) (gS 0 (.int .i64 t104) (tS eP ak))))) (fun _ hk=>hk.1),by (with_reducible repeat (first|apply Kd.cM|apply Kd.cI|apply Kd.cr));exact Kd.bq (gS 3 (.slice zf t109.length zR) (gS 2 (.int .i64 t108) (gS 1 (.slice nS t105.length og) (gS 0 (.int .i64 t104) (tS nT ak))))) (fun _ hk=>hk.1),bl⟩
/-! ### F141: function 141 -/
def lS.l0 : Nat → List (List Int) → List (List Int) → Int → Option (Bool)
 | 0,_,_,_=>none
 | k+1,x0,x1,x5=>if x5 < (x0.length:Int) then (if 0≤x5 then (if x5 < (x1.length:Int) then ((iC.f k (av x0 x5) (av x1 x5)).bind fun t103=>(if t103=true then (lS.l0 k x0 x1 (wrap64 (x5+1))) else (some false))) else (none)) else (none)) else (some true)
def lS.f (k:Nat) (l0:List (List Int)) (l1:List (List Int)):Option (Bool):=if (l0.length:Int)=(l1.length:Int) then (lS.l0 k l0 l1 0) else (some false)
theorem lS.calls (k : Nat) (A0 : Option Addr) (c0 : Nat) (l0 : List (List Int)) (A1 : Option Addr) (c1 : Nat) (l1 : List (List Int)) (r : Bool) (w : World) (cY : Kd.C (Kd.slice 2 (Kd.int .i64)) w A0 l0.length l0) (hc0 : l0.length ≤ c0) (fY : Kd.C (Kd.slice 2 (Kd.int .i64)) w A1 l1.length l1) (gi : l1.length ≤ c1) (h : lS.f k l0 l1 = some r) :
  Calls Try.prog 141 #[.slice A0 l0.length c0,.slice A1 l1.length c1] w fun e w'=>e=.returned (.bool r)∧iR w w':=by
 have ek:=k0 cY
 have jx:=k0 hc0
 clear cY hc0
 have gq:=k0 fY
 have lD:=k0 gi
 clear fY gi
 have H:(if (l0.length:Int)=(l1.length:Int) then (lS.l0 k l0 l1 0) else (some false))=some r:=h
 clear h
 by_cases c3:(l0.length:Int)=(l1.length:Int)
 case neg =>
  rw [if_neg c3] at H
  have jd:((l0.length:Int) == (l1.length:Int))=false:=beq_eq_false_iff_ne.mpr c3
  have oc:((l0.length:Int) != (l1.length:Int))=true:=bne_iff_ne.mpr c3
  have DU:(l0.length == l1.length)=false:=by first|simpa using c3|(simp at c3 ⊢;omega)
  obtain rfl:=Option.some.inj H
  go_enter Try.func141,Try.ntmps141
  go_wp2
  repeat (go_quiet (fail);try go_wp2)
  go_ret
  exact ⟨rs,dW⟩
 rw [if_pos c3] at H
 have jd:((l0.length:Int) == (l1.length:Int))=true:=beq_iff_eq.mpr c3
 have oc:((l0.length:Int) != (l1.length:Int))=false:=bne_eq_false_iff_eq.mpr c3
 have DU:(l0.length == l1.length)=true:=by first|simpa using c3|(simp at c3 ⊢;omega)
 clear c3
 have H':=k0 H
 clear H
 go_enter Try.func141,Try.ntmps141
 go_wp2
 repeat (go_quiet (fail);try go_wp2)
 go_loopg [5] k (fun kq v5 w'=>∃ (aY:Int),v5=.int .i64 aY∧aj (lS.l0 kq l0 l1 aY=some r)∧aj (kq≤k)∧iR w w')
 case atStart=>exact ⟨(0),rs,H',⟨Nat.le_refl _⟩,dW⟩
 case round =>
  clear H'
  obtain ⟨aY,rfl,HA,bx,⟨m1,rfl⟩⟩:=hrel
  cases gk with
  | zero=>exact absurd HA.z (by simp [lS.l0])
  | succ k1 =>
   have H:=HA.z
   clear HA
   simp only [lS.l0] at H
   by_cases c4:aY < (l0.length:Int)
   case neg =>
    rw [if_neg c4] at H
    have fX:decide (aY < (l0.length:Int))=false:=decide_eq_false c4
    clear c4
    obtain rfl:=Option.some.inj H
    go_wp2
    repeat (go_quiet (fail);try go_wp2)
    go_ret
    exact ⟨rs,dW⟩
   rw [if_pos c4] at H
   have fX:=decide_eq_true c4
   clear c4
   replace H:=iS H;obtain ⟨c5,H⟩:=H
   have jt:=decide_eq_true c5
   clear c5
   replace H:=iS H;obtain ⟨c6,H⟩:=H
   have kG:=decide_eq_true c6
   clear c6
   replace H:=Option.bind_eq_some_iff.mp H
   obtain ⟨t103,nE,H⟩:=H
   replace H:(if t103=true then (lS.l0 k1 l0 l1 (wrap64 (aY+1))) else (some false))=some r:=H
   have A7:=k0 nE
   clear nE
   by_cases c8:t103=true
   case neg =>
    replace c8:=Bool.eq_false_iff.mpr c8
    subst c8
    have H1:(some false)=some r:=by rw [if_neg (show ¬ (false=true) by decide)] at H;exact H
    clear H
    have H:=H1
    clear H1
    obtain rfl:=Option.some.inj H
    have apa:0≤(aY:Int):=oD
    have apb:aY < (l0.length:Int):=oD
    obtain ⟨mj,Nx,Pu,e101,lp,yJ,yG⟩:=fW ek.z aY apa apb
    cases e101
    have wX:=k0 yG
    have aqu:=k0 yJ
    clear yG yJ
    replace apa:=eq_true apa
    replace apb:=eq_true apb
    have dF:0≤(aY:Int):=oD
    have dG:aY < (l1.length:Int):=oD
    obtain ⟨nh,vA,vX,e102,gO,jM,jK⟩:=fW gq.z aY dF dG
    cases e102
    have jq:=k0 jK
    have apK:=k0 jM
    clear jK jM
    replace dF:=eq_true dF
    replace dG:=eq_true dG
    go_wp2_with (first|(go_at_call 44;(with_reducible refine (iC.calls k1 _ _ (av l0 aY) _ _ (av l1 aY) false _ ?aoN ?aoP ?bA ?bH A7.z).mono ?_);(case aoN=>exact aC wX.z);(case aoP=>exact aqu.z);(case bA=>exact aC jq.z);(case bH=>exact apK.z);rintro e w' ⟨rfl,⟨nd,rfl⟩⟩;(try exact dN)))
    repeat (go_quiet (first|(go_at_call 44;(with_reducible refine (iC.calls k1 _ _ (av l0 aY) _ _ (av l1 aY) false _ ?aoN ?aoP ?bA ?bH A7.z).mono ?_);(case aoN=>exact aC wX.z);(case aoP=>exact aqu.z);(case bA=>exact aC jq.z);(case bH=>exact apK.z);rintro e w' ⟨rfl,⟨nd,rfl⟩⟩;(try exact dN)));try go_wp2_with (first|(go_at_call 44;(with_reducible refine (iC.calls k1 _ _ (av l0 aY) _ _ (av l1 aY) false _ ?aoN ?aoP ?bA ?bH A7.z).mono ?_);(case aoN=>exact aC wX.z);(case aoP=>exact aqu.z);(case bA=>exact aC jq.z);(case bH=>exact apK.z);rintro e w' ⟨rfl,⟨nd,rfl⟩⟩;(try exact dN))))
    go_ret
    exact ⟨rs,dW⟩
   subst c8
   have H1:(lS.l0 k1 l0 l1 (wrap64 (aY+1)))=some r:=by rw [if_pos rfl] at H;exact H
   clear H
   have H:=H1
   clear H1
   have H':=k0 H
   clear H
   have apa:0≤(aY:Int):=oD
   have apb:aY < (l0.length:Int):=oD
   obtain ⟨mj,Nx,Pu,e101,lp,yJ,yG⟩:=fW ek.z aY apa apb
   cases e101
   have wX:=k0 yG
   have aqu:=k0 yJ
   clear yG yJ
   replace apa:=eq_true apa
   replace apb:=eq_true apb
   have dF:0≤(aY:Int):=oD
   have dG:aY < (l1.length:Int):=oD
   obtain ⟨nh,vA,vX,e102,gO,jM,jK⟩:=fW gq.z aY dF dG
   cases e102
   have jq:=k0 jK
   have apK:=k0 jM
   clear jK jM
   replace dF:=eq_true dF
   replace dG:=eq_true dG
   go_wp2_with (first|(go_at_call 44;(with_reducible refine (iC.calls k1 _ _ (av l0 aY) _ _ (av l1 aY) true _ ?aoN ?aoP ?bA ?bH A7.z).mono ?_);(case aoN=>exact aC wX.z);(case aoP=>exact aqu.z);(case bA=>exact aC jq.z);(case bH=>exact apK.z);rintro e w' ⟨rfl,⟨nd,rfl⟩⟩;(try exact dN)))
   repeat (go_quiet (first|(go_at_call 44;(with_reducible refine (iC.calls k1 _ _ (av l0 aY) _ _ (av l1 aY) true _ ?aoN ?aoP ?bA ?bH A7.z).mono ?_);(case aoN=>exact aC wX.z);(case aoP=>exact aqu.z);(case bA=>exact aC jq.z);(case bH=>exact apK.z);rintro e w' ⟨rfl,⟨nd,rfl⟩⟩;(try exact dN)));try go_wp2_with (first|(go_at_call 44;(with_reducible refine (iC.calls k1 _ _ (av l0 aY) _ _ (av l1 aY) true _ ?aoN ?aoP ?bA ?bH A7.z).mono ?_);(case aoN=>exact aC wX.z);(case aoP=>exact aqu.z);(case bA=>exact aC jq.z);(case bH=>exact apK.z);rintro e w' ⟨rfl,⟨nd,rfl⟩⟩;(try exact dN))))
   go_roundg k1
   case measure=>have:=bx.z;omega
   case rel=>exact ⟨(wrap64 (aY+1)),rs,H',⟨by have:=bx.z;omega⟩,dW⟩
/-! ### F65: function 65 -/
def wR.f (k:Nat) (ah:Int) (af:List (List Int)) (cg:Int) (bN:List (List Int)):Option (Bool):=if ah=cg then ((lS.f k af bN).bind fun t103=>(some t103)) else (some false)
theorem wR.calls (k : Nat) (ah : Int) (aT : Option Addr) (aoW : Nat) (af : List (List Int)) (cg : Int) (eu : Option Addr) (ey : Nat) (bN : List (List Int)) (r : Bool) (w : World) (cR : Kd.C (Kd.slice 2 (Kd.int .i64)) w aT af.length af) (cX : af.length ≤ aoW) (qg : Kd.C (Kd.slice 2 (Kd.int .i64)) w eu bN.length bN) (ap0 : bN.length ≤ ey) (h : wR.f k ah af cg bN = some r) :
  Calls Try.prog 65 #[.agg #[.int .i64 ah,.slice aT af.length aoW],.agg #[.int .i64 cg,.slice eu bN.length ey]] w fun e w'=>e=.returned (.bool r)∧Below w.heap.size w w':=by
 have iX:=Try.underlying31
 have ao6:=k0 cR
 have cV:=k0 cX
 clear cR cX
 have Br:=k0 qg
 have Bk:=k0 ap0
 clear qg ap0
 have HB:=k0 (Below.refl w.heap.size w)
 have H:(if ah=cg then ((lS.f k af bN).bind fun t103=>(some t103)) else (some false))=some r:=h
 clear h
 by_cases c3:ah=cg
 case neg =>
  rw [if_neg c3] at H
  have jd:(ah == cg)=false:=beq_eq_false_iff_ne.mpr c3
  have oc:(ah != cg)=true:=bne_iff_ne.mpr c3
  obtain rfl:=Option.some.inj H
  go_enter Try.func65,Try.ntmps65
  go_wp2_with (first|((with_reducible refine bp (N:=2) rfl ?_);refine bR 2 #[.int .i64 ah,.slice aT af.length aoW] 31 ?_;intro aoV hg mH aE hb;have aa:=k0 (aE);have bB:=gW hg (aoS bl);have aX:=bB;replace HB:=k0 (aH bl hb);clear hb aE hg)|((with_reducible refine bp (N:=3) rfl ?_);refine bR 3 #[.int .i64 cg,.slice eu bN.length ey] 31 ?_;intro ct hg vp aE hb;have ak:=k0 (aE);have fA:=gW hg (aoS bl);have fy:=fA;replace HB:=k0 (aH bl hb);have cP:=nL hg aa;have dJ:=nG cP;replace aa:=kB aa hb;clear hb aE hg;have R2:=cP.z;have Se:=dJ.z;have xm:=aQ aa;have yA:=aoT aa;have xo:=bF aa 0;have yD:=bF aa 1;have yB:=aQ ak;have yC:=aoT ak;have yE:=bF ak 0;have yF:=bF ak 1))
  go_ret
  exact ⟨eR,bl⟩
 rw [if_pos c3] at H
 have jd:(ah == cg)=true:=beq_iff_eq.mpr c3
 have oc:(ah != cg)=false:=bne_eq_false_iff_eq.mpr c3
 clear c3
 replace H:=Option.bind_eq_some_iff.mp H
 obtain ⟨t103,fu,H⟩:=H
 replace H:(some t103)=some r:=H
 have A4:=k0 fu
 clear fu
 obtain rfl:=Option.some.inj H
 go_enter Try.func65,Try.ntmps65
 go_wp2_with (first|((with_reducible refine bp (N:=2) rfl ?_);refine bR 2 #[.int .i64 ah,.slice aT af.length aoW] 31 ?_;intro aoV hg w5 aE hb;have aa:=k0 (aE);have bB:=gW hg (aoS bl);have aX:=bB;replace HB:=k0 (aH bl hb);clear hb aE hg)|((with_reducible refine bp (N:=3) rfl ?_);refine bR 3 #[.int .i64 cg,.slice eu bN.length ey] 31 ?_;intro ct hg w6 aE hb;have ak:=k0 (aE);have fA:=gW hg (aoS bl);have fy:=fA;replace HB:=k0 (aH bl hb);have cP:=nL hg aa;have dJ:=nG cP;replace aa:=kB aa hb;clear hb aE hg;have EN:=cP.z;have EO:=dJ.z;have BX:=aQ aa;have BZ:=aoT aa;have B7:=bF aa 0;have aqR:=bF aa 1;have v_:=aQ ak;have we:=aoT ak;have xp:=bF ak 0;have wh:=bF ak 1)|(go_at_call 141;(with_reducible refine (lS.calls k _ _ af _ _ bN t103 _ ?aoN ?aoP ?bA ?bH A4.z).mono ?_);(case aoN=>exact aC (Kd.ao4 ao6.z HB.z));(case aoP=>exact cV.z);(case bA=>exact aC (Kd.ao4 Br.z HB.z));(case bH=>exact Bk.z);rintro e w' ⟨rfl,⟨nd,rfl⟩⟩))
 go_ret
 exact ⟨eR,bl⟩
/-! ### F58: function 58 -/
def sQ.f (k:Nat) (ah:Int) (af:List (List Int)) (bM:Int) (bL:List (List Int)) (cg:Int) (bN:List (List Int)) (mO:Int) (nu:List (List Int)):Option (Bool):=(wR.f k ah af cg bN).bind fun t103=>(if t103=true then (if bM=mO then ((lS.f k bL nu).bind fun t104=>(some t104)) else (some false)) else (some false))
theorem sQ.calls (k : Nat) (ah : Int) (aT : Option Addr) (aoW : Nat) (af : List (List Int)) (bM : Int) (fV : Option Addr) (fT : Nat) (bL : List (List Int)) (cg : Int) (eu : Option Addr) (ey : Nat) (bN : List (List Int)) (mO : Int) (xU : Option Addr) (yj : Nat) (nu : List (List Int)) (r : Bool) (w : World) (cR : Kd.C (Kd.slice 2 (Kd.int .i64)) w aT af.length af) (cX : af.length ≤ aoW) (apV : Kd.C (Kd.slice 2 (Kd.int .i64)) w fV bL.length bL) (rB : bL.length ≤ fT) (qg : Kd.C (Kd.slice 2 (Kd.int .i64)) w eu bN.length bN) (ap0 : bN.length ≤ ey) (Hj : Kd.C (Kd.slice 2 (Kd.int .i64)) w xU nu.length nu) (KC : nu.length ≤ yj) (h : sQ.f k ah af bM bL cg bN mO nu = some r) :
  Calls Try.prog 58 #[.agg #[.int .i64 ah,.slice aT af.length aoW,.int .i64 bM,.slice fV bL.length fT],.agg #[.int .i64 cg,.slice eu bN.length ey,.int .i64 mO,.slice xU nu.length yj]] w fun e w'=>e=.returned (.bool r)∧Below w.heap.size w w':=by
 have wo:=Try.underlying33
 have iX:=Try.underlying31
 have ao6:=k0 cR
 have cV:=k0 cX
 clear cR cX
 have pq:=k0 apV
 have apJ:=k0 rB
 clear apV rB
 have Br:=k0 qg
 have Bk:=k0 ap0
 clear qg ap0
 have VW:=k0 Hj
 have VK:=k0 KC
 clear Hj KC
 have HB:=k0 (Below.refl w.heap.size w)
 have H:((wR.f k ah af cg bN).bind fun t103=>(if t103=true then (if bM=mO then ((lS.f k bL nu).bind fun t104=>(some t104)) else (some false)) else (some false)))=some r:=h
 clear h
 replace H:=Option.bind_eq_some_iff.mp H
 obtain ⟨t103,fJ,H⟩:=H
 replace H:(if t103=true then (if bM=mO then ((lS.f k bL nu).bind fun t104=>(some t104)) else (some false)) else (some false))=some r:=H
 have A3:=k0 fJ
 clear fJ
 by_cases c4:t103=true
 case neg =>
  replace c4:=Bool.eq_false_iff.mpr c4
  subst c4
  have H1:(some false)=some r:=by rw [if_neg (show ¬ (false=true) by decide)] at H;exact H
  clear H
  have H:=H1
  clear H1
  obtain rfl:=Option.some.inj H
  go_enter Try.func58,Try.ntmps58
  go_wp2_with (first|((with_reducible refine bp (N:=2) rfl ?_);refine bR 2 #[.int .i64 ah,.slice aT af.length aoW,.int .i64 bM,.slice fV bL.length fT] 33 ?_;intro aoV hg CO aE hb;have aa:=k0 (aE);have bB:=gW hg (aoS bl);have aX:=bB;replace HB:=k0 (aH bl hb);clear hb aE hg)|((with_reducible refine bp (N:=3) rfl ?_);refine bR 3 #[.int .i64 cg,.slice eu bN.length ey,.int .i64 mO,.slice xU nu.length yj] 33 ?_;intro ct hg Fs aE hb;have ak:=k0 (aE);have fA:=gW hg (aoS bl);have fy:=fA;replace HB:=k0 (aH bl hb);have cP:=nL hg aa;have dJ:=nG cP;replace aa:=kB aa hb;clear hb aE hg;have G_:=cP.z;have Hg:=dJ.z;have KN:=aQ aa;have KO:=aoT aa;have aaK:=ao_ aa;have aaL:=ec aa;have K9:=bF aa 0;have K_:=bF aa 1;have abw:=bF aa 2;have abx:=bF aa 3;have KP:=aQ ak;have KQ:=aoT ak;have aaM:=ao_ ak;have aaN:=ec ak;have La:=bF ak 0;have Lb:=bF ak 1;have aby:=bF ak 2;have abz:=bF ak 3)|((with_reducible refine bg (f:=65) rfl ?_);refine gC (some 9) Try.func65 #[.agg #[.int .i64 ah,.slice aT af.length aoW],.agg #[.int .i64 cg,.slice eu bN.length ey]] ?_;(with_reducible refine (wR.calls k ah _ _ af cg _ _ bN false _ ?aoN ?aoP ?bA ?bH A3.z).mono ?_);(case aoN=>exact aC (Kd.ao4 ao6.z HB.z));(case aoP=>exact cV.z);(case bA=>exact aC (Kd.ao4 Br.z HB.z));(case bH=>exact Bk.z);rintro e aqG ⟨rfl,hb⟩;refine ⟨_,rfl,?_⟩;have aq:=kB aa hb;have au:=kB ak hb;have ax:=k0 (aH bl hb);clear aa;clear ak;clear HB;have aa:=aq;have ak:=au;have HB:=ax;clear aq au ax;))
  go_ret
  exact ⟨eR,bl⟩
 subst c4
 have H1:(if bM=mO then ((lS.f k bL nu).bind fun t104=>(some t104)) else (some false))=some r:=by rw [if_pos rfl] at H;exact H
 clear H
 have H:=H1
 clear H1
 by_cases c5:bM=mO
 case neg =>
  rw [if_neg c5] at H
  have jt:(bM == mO)=false:=beq_eq_false_iff_ne.mpr c5
  have ym:(bM != mO)=true:=bne_iff_ne.mpr c5
  obtain rfl:=Option.some.inj H
  go_enter Try.func58,Try.ntmps58
  go_wp2_with (first|((with_reducible refine bp (N:=2) rfl ?_);refine bR 2 #[.int .i64 ah,.slice aT af.length aoW,.int .i64 bM,.slice fV bL.length fT] 33 ?_;intro aoV hg qq aE hb;have aa:=k0 (aE);have bB:=gW hg (aoS bl);have aX:=bB;replace HB:=k0 (aH bl hb);clear hb aE hg)|((with_reducible refine bp (N:=3) rfl ?_);refine bR 3 #[.int .i64 cg,.slice eu bN.length ey,.int .i64 mO,.slice xU nu.length yj] 33 ?_;intro ct hg xE aE hb;have ak:=k0 (aE);have fA:=gW hg (aoS bl);have fy:=fA;replace HB:=k0 (aH bl hb);have cP:=nL hg aa;have dJ:=nG cP;replace aa:=kB aa hb;clear hb aE hg;have G9:=cP.z;have Hf:=dJ.z;have Er:=aQ aa;have Es:=aoT aa;have aik:=ao_ aa;have ail:=ec aa;have Ex:=bF aa 0;have Ey:=bF aa 1;have aku:=bF aa 2;have akv:=bF aa 3;have BV:=aQ ak;have BW:=aoT ak;have aim:=ao_ ak;have ain:=ec ak;have aqQ:=bF ak 0;have B6:=bF ak 1;have akw:=bF ak 2;have akx:=bF ak 3)|((with_reducible refine bg (f:=65) rfl ?_);refine gC (some 9) Try.func65 #[.agg #[.int .i64 ah,.slice aT af.length aoW],.agg #[.int .i64 cg,.slice eu bN.length ey]] ?_;(with_reducible refine (wR.calls k ah _ _ af cg _ _ bN true _ ?aoN ?aoP ?bA ?bH A3.z).mono ?_);(case aoN=>exact aC (Kd.ao4 ao6.z HB.z));(case aoP=>exact cV.z);(case bA=>exact aC (Kd.ao4 Br.z HB.z));(case bH=>exact Bk.z);rintro e aqf ⟨rfl,hb⟩;refine ⟨_,rfl,?_⟩;have aq:=kB aa hb;have au:=kB ak hb;have ax:=k0 (aH bl hb);clear aa;clear ak;clear HB;have aa:=aq;have ak:=au;have HB:=ax;clear aq au ax;have GC:=aQ aa;have GD:=aoT aa;have aaG:=ao_ aa;have aaH:=ec aa;have GO:=bF aa 0;have GP:=bF aa 1;have abr:=bF aa 2;have abt:=bF aa 3;have KJ:=aQ ak;have KK:=aoT ak;have aaI:=ao_ ak;have aaJ:=ec ak;have K5:=bF ak 0;have K6:=bF ak 1;have abu:=bF ak 2;have abv:=bF ak 3))
  go_ret
  exact ⟨eR,bl⟩
 rw [if_pos c5] at H
 have jt:(bM == mO)=true:=beq_iff_eq.mpr c5
 have ym:(bM != mO)=false:=bne_eq_false_iff_eq.mpr c5
 clear c5
 replace H:=Option.bind_eq_some_iff.mp H
 obtain ⟨t104,kX,H⟩:=H
 replace H:(some t104)=some r:=H
 have A6:=k0 kX
 clear kX
 obtain rfl:=Option.some.inj H
 go_enter Try.func58,Try.ntmps58
 go_wp2_with (first|((with_reducible refine bp (N:=2) rfl ?_);refine bR 2 #[.int .i64 ah,.slice aT af.length aoW,.int .i64 bM,.slice fV bL.length fT] 33 ?_;intro aoV hg w7 aE hb;have aa:=k0 (aE);have bB:=gW hg (aoS bl);have aX:=bB;replace HB:=k0 (aH bl hb);clear hb aE hg)|((with_reducible refine bp (N:=3) rfl ?_);refine bR 3 #[.int .i64 cg,.slice eu bN.length ey,.int .i64 mO,.slice xU nu.length yj] 33 ?_;intro ct hg w8 aE hb;have ak:=k0 (aE);have fA:=gW hg (aoS bl);have fy:=fA;replace HB:=k0 (aH bl hb);have cP:=nL hg aa;have dJ:=nG cP;replace aa:=kB aa hb;clear hb aE hg;have Cc:=cP.z;have Ce:=dJ.z;have uD:=aQ aa;have uE:=aoT aa;have aat:=ao_ aa;have aau:=ec aa;have uF:=bF aa 0;have uG:=bF aa 1;have abe:=bF aa 2;have abf:=bF aa 3;have BQ:=aQ ak;have BR:=aoT ak;have aax:=ao_ ak;have aay:=ec ak;have aqO:=bF ak 0;have B2:=bF ak 1;have abi:=bF ak 2;have abj:=bF ak 3)|((with_reducible refine bg (f:=65) rfl ?_);refine gC (some 9) Try.func65 #[.agg #[.int .i64 ah,.slice aT af.length aoW],.agg #[.int .i64 cg,.slice eu bN.length ey]] ?_;(with_reducible refine (wR.calls k ah _ _ af cg _ _ bN true _ ?aoN ?aoP ?bA ?bH A3.z).mono ?_);(case aoN=>exact aC (Kd.ao4 ao6.z HB.z));(case aoP=>exact cV.z);(case bA=>exact aC (Kd.ao4 Br.z HB.z));(case bH=>exact Bk.z);rintro e vq ⟨rfl,hb⟩;refine ⟨_,rfl,?_⟩;have aq:=kB aa hb;have au:=kB ak hb;have ax:=k0 (aH bl hb);clear aa;clear ak;clear HB;have aa:=aq;have ak:=au;have HB:=ax;clear aq au ax;have xm:=aQ aa;have yA:=aoT aa;have Q7:=ao_ aa;have Q8:=ec aa;have xo:=bF aa 0;have yD:=bF aa 1;have Rq:=bF aa 2;have Rs:=bF aa 3;have yB:=aQ ak;have yC:=aoT ak;have aaz:=ao_ ak;have aaA:=ec ak;have yE:=bF ak 0;have yF:=bF ak 1;have abk:=bF ak 2;have abl:=bF ak 3)|(go_at_call 141;(with_reducible refine (lS.calls k _ _ bL _ _ nu t104 _ ?aoN ?aoP ?bA ?bH A6.z).mono ?_);(case aoN=>exact aC (Kd.ao4 pq.z HB.z));(case aoP=>exact apJ.z);(case bA=>exact aC (Kd.ao4 VW.z HB.z));(case bH=>exact VK.z);rintro e w' ⟨rfl,⟨nd,rfl⟩⟩))
 go_ret
 exact ⟨eR,bl⟩
/-! ### F59: function 59 -/
def wQ.f (k:Nat) (ah:Int) (af:List (List Int)):Option (List Int × Int):=(jG.f k ah af).bind fun t102=>(if t102=true then ((apD.f k ah af).bind fun t103=>(some (t103,0))) else (some (([]:List Int),1)))
theorem wQ.calls (k : Nat) (ah : Int) (aT : Option Addr) (aoW : Nat) (af : List (List Int)) (r1 : List Int) (r2 : Int) (w : World) (cR : Kd.C (Kd.slice 2 (Kd.int .i64)) w aT af.length af) (cX : af.length ≤ aoW) (h : wQ.f k ah af = some (r1, r2)) :
  Calls Try.prog 59 #[.agg #[.int .i64 ah,.slice aT af.length aoW]] w fun e w'=>∃ eE:Value,e=.returned (.tuple #[eE,.int .i64 r2])∧Kd.R (Kd.int .i64) 2 w' w.heap.size (fun _=>True) eE r1∧Below w.heap.size w w':=by
 have iX:=Try.underlying31
 have ao6:=k0 cR
 have cV:=k0 cX
 clear cR cX
 have HB:=k0 (Below.refl w.heap.size w)
 have H:((jG.f k ah af).bind fun t102=>(if t102=true then ((apD.f k ah af).bind fun t103=>(some (t103,0))) else (some (([]:List Int),1))))=some (r1,r2):=h
 clear h
 replace H:=Option.bind_eq_some_iff.mp H
 obtain ⟨t102,fI,H⟩:=H
 replace H:(if t102=true then ((apD.f k ah af).bind fun t103=>(some (t103,0))) else (some (([]:List Int),1)))=some (r1,r2):=H
 have A2:=k0 fI
 clear fI
 by_cases c3:t102=true
 case neg =>
  replace c3:=Bool.eq_false_iff.mpr c3
  subst c3
  have H1:(some (([]:List Int),1))=some (r1,r2):=by rw [if_neg (show ¬ (false=true) by decide)] at H;exact H
  clear H
  have H:=H1
  clear H1
  simp only [Option.some.injEq,Prod.mk.injEq] at H
  obtain ⟨rfl,rfl⟩:=H
  go_enter Try.func59,Try.ntmps59
  go_wp2_with (first|((with_reducible refine bp (N:=1) rfl ?_);refine bR 1 #[.int .i64 ah,.slice aT af.length aoW] 31 ?_;intro aoV hg mH aE hb;have aa:=k0 (aE);have bB:=gW hg (aoS bl);have aX:=bB;replace HB:=k0 (aH bl hb);clear hb aE hg;have BQ:=aQ aa;have BR:=aoT aa;have aqO:=bF aa 0;have B2:=bF aa 1)|((with_reducible refine bg (f:=106) rfl ?_);refine gC (some 5) Try.func106 #[.agg #[.int .i64 ah,.slice aT af.length aoW]] ?_;(with_reducible refine (jG.calls k ah _ _ af false _ ?aoN ?aoP A2.z).mono ?_);(case aoN=>exact aC (Kd.ao4 ao6.z HB.z));(case aoP=>exact cV.z);rintro e vq ⟨rfl,hb⟩;refine ⟨_,rfl,?_⟩;replace aa:=kB aa hb;replace HB:=k0 (aH bl hb);))
  go_ret2
  exact ⟨_,eR,by first|exact Kd.kO _ _ _ _ _|exact Kd.lG _ _ _ _ _|exact Kd.apy _ _ _ _ _|exact Kd.lH _ _ _ _ _|exact Kd.lf _ _ _ _ _,bl⟩
 subst c3
 have H1:((apD.f k ah af).bind fun t103=>(some (t103,0)))=some (r1,r2):=by rw [if_pos rfl] at H;exact H
 clear H
 have H:=H1
 clear H1
 replace H:=Option.bind_eq_some_iff.mp H
 obtain ⟨t103,fu,H⟩:=H
 replace H:(some (t103,0))=some (r1,r2):=H
 have A4:=k0 fu
 clear fu
 simp only [Option.some.injEq,Prod.mk.injEq] at H
 obtain ⟨rfl,rfl⟩:=H
 go_enter Try.func59,Try.ntmps59
 go_wp2_with (first|((with_reducible refine bp (N:=1) rfl ?_);refine bR 1 #[.int .i64 ah,.slice aT af.length aoW] 31 ?_;intro aoV hg w5 aE hb;have aa:=k0 (aE);have bB:=gW hg (aoS bl);have aX:=bB;replace HB:=k0 (aH bl hb);clear hb aE hg;have Ri:=aQ aa;have Rj:=aoT aa;have RD:=bF aa 0;have RE:=bF aa 1)|((with_reducible refine bg (f:=106) rfl ?_);refine gC (some 5) Try.func106 #[.agg #[.int .i64 ah,.slice aT af.length aoW]] ?_;(with_reducible refine (jG.calls k ah _ _ af true _ ?aoN ?aoP A2.z).mono ?_);(case aoN=>exact aC (Kd.ao4 ao6.z HB.z));(case aoP=>exact cV.z);rintro e w7 ⟨rfl,hb⟩;refine ⟨_,rfl,?_⟩;replace aa:=kB aa hb;replace HB:=k0 (aH bl hb);have BX:=aQ aa;have BZ:=aoT aa;have B7:=bF aa 0;have aqR:=bF aa 1)|((with_reducible refine bg (f:=86) rfl ?_);refine gC (some 8) Try.func86 #[.agg #[.int .i64 ah,.slice aT af.length aoW]] ?_;(with_reducible refine (apD.calls k ah _ _ af t103 _ ?aoN ?aoP A4.z).mono ?_);(case aoN=>exact aC (Kd.ao4 ao6.z HB.z));(case aoP=>exact cV.z);rintro e w9 ⟨tI,rfl,aD,hb⟩;refine ⟨_,rfl,?_⟩;have apd:=k0 (Kd.cU aD (aoS bl));replace aa:=kB aa hb;replace HB:=k0 (aH bl hb);))
 go_ret2
 exact ⟨_,eR,by (with_reducible repeat (first|apply Kd.dK|apply Kd.dD|apply Kd.cB));exact apd.z,bl⟩
end Go.Proofs.Ytoebojnhchocaaa.E
/- Set with little white space, by a program. -/
