/- The functions that one law reaches, each as a Lean function, and that Go's call comes to what it says. Condition of each: that the Lean function answers (is not none). -/
import Derived.Test.YtoebojnhchocaaaGx0
import Derived.Test.YtoebojnhchocaaaGx1
import Derived.Test.YtoebojnhchocaaaGx4
import Derived.Test.YtoebojnhchocaaaGx6
import Derived.Test.YtoebojnhchocaaaGx10
namespace Go.Proofs.Ytoebojnhchocaaa.G
open Go.RowKit Go.Proofs.cx.fq Go.Proofs.cx.jX Go.Proofs.cx.lu
attribute [local go_sem] max2_int min2_int max_two min_two max_three min_three max_four min_four   -- for this text's walks alone
set_option linter.unusedVariables false
set_option linter.unusedSimpArgs false
set_option maxHeartbeats 8000000
set_option maxRecDepth 100000
/-! ### F47: function 47 -/
def gw.l0 : Nat → List Int → Int → Int → List (List Int) → Option (List Int × Int)
 | 0,_,_,_,_=>none
 | k+1,x4,x5,iN,iy=>if x5 < iN then (if x4.length < 17592186044416 then (gw.l0 k (x4 ++ [x5]) (wrap64 (x5+1)) iN iy) else (none)) else ((dO.f k iN iy).bind fun t109=>((dx.f k t109 x4).bind fun t112=>(some (t112,0))))
def gw.f (k:Nat) (au:Int) (ah:List (List Int)):Option (List Int × Int):=(cY.f k au ah).bind fun t102=>(if t102=true then (gw.l0 k (([]:List Int)) 0 au ah) else (some (([]:List Int),1)))
theorem gw.cC : ∀ k, (∀ y0 y1 y2 y3, ag (gw.l0 k y0 y1 y2 y3) (gw.l0 (k + 1) y0 y1 y2 y3))
 | 0=>fun _ _ _ _ r h=>by simp [gw.l0] at h
 | k+1=>by
  have a_:=gw.cC k
  ·intro y0 y1 y2 y3
   unfold gw.l0
   repeat' first
    | (with_reducible first|exact a_ _ _ _ _|exact dO.mono _ _ _|exact cY.mono _ _ _|exact dx.mono _ _ _|exact ag.refl _|exact ag.none _|refine ag.ite ?_ ?_|refine ag.bind ?_ (fun _=>?_))
    | exact a_ _ _ _ _|exact dO.mono _ _ _|exact cY.mono _ _ _|exact dx.mono _ _ _|exact ag.none _|refine ag.ite ?_ ?_|refine ag.bind ?_ (fun _=>?_)
theorem gw.mono:∀ a0 a1 k,ag (gw.f k a0 a1) (gw.f (k+1) a0 a1):=by
 intro a0 a1 k
 have a_:=gw.cC k
 unfold gw.f
 repeat' first
  | (with_reducible first|exact a_ _ _ _ _|exact dO.mono _ _ _|exact cY.mono _ _ _|exact dx.mono _ _ _|exact ag.refl _|exact ag.none _|refine ag.ite ?_ ?_|refine ag.bind ?_ (fun _=>?_))
  | exact a_ _ _ _ _|exact dO.mono _ _ _|exact cY.mono _ _ _|exact dx.mono _ _ _|exact ag.none _|refine ag.ite ?_ ?_|refine ag.bind ?_ (fun _=>?_)
theorem gw.calls (k : Nat) (au : Int) (bJ : Option Addr) (bI : Nat) (ah : List (List Int)) (r1 : List Int) (r2 : Int) (w : World) (eS : Kd.C (Kd.slice 2 (Kd.int .i64)) w bJ ah.length ah) (eY : ah.length ≤ bI) (h : gw.f k au ah = some (r1, r2)) :
  Calls Try.prog 47 #[.agg #[.int .i64 au,.slice bJ ah.length bI]] w fun e w'=>∃ dw:Value,e=.returned (.tuple #[dw,.int .i64 r2])∧Kd.R (Kd.int .i64) 2 w' w.heap.size (fun _=>True) dw r1∧Below w.heap.size w w':=by
 have jS:=Try.underlying31
 have dP:=k0 eS
 have f_:=k0 eY
 clear eS eY
 have HB:=k0 (Below.refl w.heap.size w)
 have H:((cY.f k au ah).bind fun t102=>(if t102=true then (gw.l0 k (([]:List Int)) 0 au ah) else (some (([]:List Int),1))))=some (r1,r2):=h
 clear h
 replace H:=Option.bind_eq_some_iff.mp H
 obtain ⟨t102,eD,H⟩:=H
 replace H:(if t102=true then (gw.l0 k (([]:List Int)) 0 au ah) else (some (([]:List Int),1)))=some (r1,r2):=H
 have A2:=k0 eD
 clear eD
 by_cases c3:t102=true
 case neg =>
  replace c3:=Bool.eq_false_iff.mpr c3
  subst c3
  have H1:(some (([]:List Int),1))=some (r1,r2):=by rw [if_neg (show ¬ (false=true) by decide)] at H;exact H
  clear H
  have H:=H1
  clear H1
  simp only [Option.some.injEq,Prod.mk.injEq] at H
  obtain ⟨rfl,rfl⟩:=H
  go_enter Try.func47,Try.ntmps47
  go_wp2_with (first|((with_reducible refine bN (N:=1) rfl ?_);refine cE 1 #[.int .i64 au,.slice bJ ah.length bI] 31 ?_;intro aW hg zf aG hb;have aa:=k0 (aG);have cu:=gW hg (anG bl);have anQ:=cu;replace HB:=k0 (anH bl hb);clear hb aG hg;have Qm:=aX aa;have Qn:=aY aa;have QK:=bF aa 0;have QL:=bF aa 1)|((with_reducible refine bS (f:=100) rfl ?_);refine gC (some 7) Try.func100 #[.agg #[.int .i64 au,.slice bJ ah.length bI]] ?_;(with_reducible refine (cY.calls k au _ _ ah false _ ?aA ?anD A2.z).mono ?_);(case aA=>exact aC (Kd.dU dP.z HB.z));(case anD=>exact f_.z);rintro e tT ⟨rfl,hb⟩;refine ⟨_,rfl,?_⟩;replace aa:=kB aa hb;replace HB:=k0 (anH bl hb);))
  go_ret2
  exact ⟨_,eR,by first|exact Kd.ny _ _ _ _ _|exact Kd.rV _ _ _ _ _|exact Kd.rY _ _ _ _ _|exact Kd.rW _ _ _ _ _|exact Kd.rX _ _ _ _ _,bl⟩
 subst c3
 have H1:(gw.l0 k (([]:List Int)) 0 au ah)=some (r1,r2):=by rw [if_pos rfl] at H;exact H
 clear H
 have H:=H1
 clear H1
 obtain ⟨zk,yg⟩:∃ y_:List Int,y_=(([]:List Int)):=⟨_,rfl⟩
 replace H:(gw.l0 k zk 0 au ah)=some (r1,r2):=rH yg H
 have BJ:=k0 yg
 clear yg
 have H':=k0 H
 clear H
 go_enter Try.func47,Try.ntmps47
 go_wp2_with (first|((with_reducible refine bN (N:=1) rfl ?_);refine cE 1 #[.int .i64 au,.slice bJ ah.length bI] 31 ?_;intro aW hg w4 aG hb;have aa:=k0 (aG);have cu:=gW hg (anG bl);have anQ:=cu;replace HB:=k0 (anH bl hb);clear hb aG hg;have uG:=aX aa;have uH:=aY aa;have uI:=bF aa 0;have uJ:=bF aa 1)|((with_reducible refine bS (f:=100) rfl ?_);refine gC (some 7) Try.func100 #[.agg #[.int .i64 au,.slice bJ ah.length bI]] ?_;(with_reducible refine (cY.calls k au _ _ ah true _ ?aA ?anD A2.z).mono ?_);(case aA=>exact aC (Kd.dU dP.z HB.z));(case anD=>exact f_.z);rintro e w6 ⟨rfl,hb⟩;refine ⟨_,rfl,?_⟩;replace aa:=kB aa hb;replace HB:=k0 (anH bl hb);)|((with_reducible refine bN (N:=9) rfl ?_);refine Kd.jd (Kd.int .i64) _ 2 ?hg (N:=9) ?hd (xs:=([]:List Int)) (inner:=[]) (ok:=fun _=>True) (anX:=fun _=>True) ?hr ?hp (fun _ hk=>hk) trivial (Below.refl _ _) (Nat.le_refl _) (by simp) ?_;(case hd=>rfl);(case hg=>rfl);(case hr=>first|(go_simp;done)|(go_simp;rfl));(case hp=>exact (bu.none _ _));intro aoZ w7 mU hb c_ dc;clear c_ dc;(first|rw [← BJ.z] at mU|(simp only [Int.reduceToNat] at mU;rw [← BJ.z] at mU));have cZ:=k0 (Kd.cH mU (anG bl));replace aa:=kB aa hb;replace HB:=k0 (anH bl hb);clear hb mU))
 go_loopg [4,5] k (fun kq v4 v5 w'=>∃ (bD:List Int) (bR:Int),v5=.int .i64 bR∧ak (gw.l0 kq bD bR au ah=some (r1,r2))∧ak (kq≤k)∧ak (Kd.R (Kd.int .i64) 2 w' w.heap.size (fun _=>True) v4 bD)∧ak (w'.heap[aW]?=some (sO au bJ ah bI 31))∧ak (Below w.heap.size w w'))
 case atStart=>exact ⟨(zk),(0),rs,H',⟨Nat.le_refl _⟩,⟨aR (cZ.z)⟩,⟨bk⟩,⟨bl⟩⟩
 case round =>
  clear H'
  obtain ⟨bD,bR,rfl,HA,bH,aE,aa,HB⟩:=hrel
  cases gk with
  | zero=>exact absurd HA.z (by simp [gw.l0])
  | succ k1 =>
   have H:=HA.z
   clear HA
   simp only [gw.l0] at H
   by_cases c9:bR < au
   case neg =>
    rw [if_neg c9] at H
    have nY:decide (bR < au)=false:=decide_eq_false c9
    clear c9
    replace H:=Option.bind_eq_some_iff.mp H
    obtain ⟨t109,Bh,H⟩:=H
    replace H:((dx.f k1 t109 bD).bind fun t112=>(some (t112,0)))=some (r1,r2):=H
    have rM:=k0 Bh
    clear Bh
    replace H:=Option.bind_eq_some_iff.mp H
    obtain ⟨t112,rN,H⟩:=H
    replace H:(some (t112,0))=some (r1,r2):=H
    have wY:=k0 rN
    clear rN
    simp only [Option.some.injEq,Prod.mk.injEq] at H
    obtain ⟨rfl,rfl⟩:=H
    have aaJ:=aX aa
    have aaK:=aY aa
    have abl:=bF aa 0
    have abm:=bF aa 1
    go_wp2_with (first|((with_reducible refine bS (f:=120) rfl ?_);refine gC (some 21) Try.func120 #[.agg #[.int .i64 au,.slice bJ ah.length bI]] ?_;(with_reducible refine (dO.calls k1 au _ _ ah t109 _ ?aA ?anD rM.z).mono ?_);(case aA=>exact aC (Kd.dU dP.z HB.z));(case anD=>exact f_.z);rintro e DX ⟨zc,rfl,aq,hb⟩;refine ⟨_,rfl,?_⟩;have qz:=k0 (Kd.gD (Kd.jy aq (Kd.bK (aR aE.z))) (anG bl));replace aE:=k0 (Kd.dg (aR aE.z) hb);replace aa:=kB aa hb;replace HB:=k0 (anH bl hb);obtain ⟨MG,OU,I0⟩:=Kd.eH qz.z;subst I0;obtain ⟨MH,IK,Av⟩:=Kd.cK aE.z;subst Av)|((with_reducible refine bS (f:=121) rfl ?_);refine gC (some 23) Try.func121 #[.slice MG t109.length OU,.slice MH bD.length IK] ?_;(with_reducible refine (dx.calls k1 _ _ t109 _ _ bD t112 _ ?aA ?anD ?cP ?dB wY.z).mono ?_);(case aA=>exact aC ((Kd.anY qz.z).2.2));(case anD=>exact (Kd.anY qz.z).2.1);(case cP=>exact aC ((Kd.anT aE.z).2.2));(case dB=>exact (Kd.anT aE.z).2.1);rintro e LU ⟨Tz,rfl,aq,hb⟩;refine ⟨_,rfl,?_⟩;replace qz:=k0 (Kd.an6 (aS qz.z) (Kd.aU aq) hb);have ud:=k0 (Kd.cH (Kd.cR aq (Kd.bK (aR aE.z))) (anG bl));replace aE:=k0 (Kd.cQ (aR aE.z) (Kd.aU aq) hb);replace aa:=kB aa hb;replace HB:=k0 (anH bl hb);))
    go_ret2
    exact ⟨_,eR,by (with_reducible repeat (first|apply Kd.b_|apply Kd.bZ|apply Kd.bP));exact Kd.aT ud.z (fun _ hk=>trivial),bl⟩
   rw [if_pos c9] at H
   have nY:=decide_eq_true c9
   clear c9
   replace H:=iS H;obtain ⟨c10,H⟩:=H
   have VR:=k0 c10
   clear c10
   obtain ⟨zl,yj⟩:∃ y_:List Int,y_=(bD ++ [bR]):=⟨_,rfl⟩
   replace H:(gw.l0 k1 zl (wrap64 (bR+1)) au ah)=some (r1,r2):=rH yj H
   have EF:=k0 yj
   clear yj
   have H':=k0 H
   clear H
   have Fc:=aX aa
   have Fe:=aY aa
   have Fi:=bF aa 0
   have Fj:=bF aa 1
   go_wp2_with (first|((with_reducible refine aoi (b:=.append) (xs:=#[.tmp 16,.tmp 18]) rfl ?_);at_builtin;refine Kd.qB (Kd.int .i64) (w0:=w) w.heap.size rfl (.tmp 16) (.tmp 18) 28 2 (.int .i64 0) 8 rfl Try.underlying28 aoj rfl (by decide) (by omega) u4 bD bR [.int .i64 bR] (fun _=>True) (fun _=>False) rfl rfl ?aP (fun _ hk=>hk.elim) ?aF ?aO ?aB ?aS ?aL ?_;(case aP=>exact rfl);(case aB=>exact bl);(case aF=>exact (fun _ _=>trivial));(case aO=>exact (aR aE.z));(case aS=>exact (anG bl));(case aL=>have:=VR.out;omega);intro v107 ao0 ho hb hg bz;rw [← EF.z] at ho;have av:=k0 (gh (aB aa.z) hg (Kd.iM aE.z aa.z (by decide)));have ax:=k0 (hb);have ay:=k0 (ho);clear aa;clear HB;clear aE;have aa:=av;have HB:=ax;have kC:=ay;clear av ax ay;clear ho hb hg bz))
   go_roundg k1
   case measure=>have:=bH.z;omega
   case rel=>exact ⟨(zl),(wrap64 (bR+1)),rs,H',⟨by have:=bH.z;omega⟩,⟨aR (kC.z)⟩,⟨bk⟩,⟨bl⟩⟩
/-! ### F48: function 48 -/
def ow.f (k:Nat) (l0:List Int):Option (Int × (List (List Int))):=(eT.f k l0).bind fun cO=>((jO.f k cO.1 cO.2.1 cO.2.2).bind fun an3=>(some (an3.1,an3.2.1)))
theorem ow.mono:∀ a0 k,ag (ow.f k a0) (ow.f (k+1) a0):=by
 intro a0 k
 unfold ow.f
 repeat' first
  | (with_reducible first|exact eT.mono _ _|exact jO.mono _ _ _ _|exact ag.refl _|exact ag.none _|refine ag.ite ?_ ?_|refine ag.bind ?_ (fun _=>?_))
  | exact eT.mono _ _|exact jO.mono _ _ _ _|exact ag.none _|refine ag.ite ?_ ?_|refine ag.bind ?_ (fun _=>?_)
theorem ow.calls (k : Nat) (A0 : Option Addr) (c0 : Nat) (l0 : List Int) (r1 : Int) (r2 : List (List Int)) (w : World) (cL : Kd.C (Kd.int .u8) w A0 l0.length l0) (hc0 : l0.length ≤ c0) (h : ow.f k l0 = some (r1, r2)) :
  Calls Try.prog 48 #[.slice A0 l0.length c0] w fun e w'=>∃ iw:Value,e=.returned (.agg #[.int .i64 r1,iw])∧Kd.V (Kd.slice 2 (Kd.int .i64)) 28 w' w.heap.size (fun k_=>(w.heap.size≤k_)) iw r2∧Below w.heap.size w w':=by
 have jS:=Try.underlying31
 have dh:=k0 cL
 have fI:=k0 hc0
 clear cL hc0
 have HB:=k0 (Below.refl w.heap.size w)
 have H:((eT.f k l0).bind fun cO=>((jO.f k cO.1 cO.2.1 cO.2.2).bind fun an3=>(some (an3.1,an3.2.1))))=some (r1,r2):=h
 clear h
 replace H:=Option.bind_eq_some_iff.mp H
 obtain ⟨⟨t102,t103,t104⟩,eD,H⟩:=H
 replace H:((jO.f k t102 t103 t104).bind fun an3=>(some (an3.1,an3.2.1)))=some (r1,r2):=H
 have A2:=k0 eD
 clear eD
 replace H:=Option.bind_eq_some_iff.mp H
 obtain ⟨⟨t106,t107,t110,t111⟩,fS,H⟩:=H
 replace H:(some (t106,t107))=some (r1,r2):=H
 have A3:=k0 fS
 clear fS
 simp only [Option.some.injEq,Prod.mk.injEq] at H
 obtain ⟨rfl,rfl⟩:=H
 go_enter Try.func48,Try.ntmps48
 go_wp2_with (first|((with_reducible refine bN (N:=2) rfl ?_);refine cE 2 #[.int .i64 0,.slice none 0 0] 31 ?_;intro aW hg w4 aG hb;have aa:=k0 (aG);have cu:=gW hg (anG bl);have anQ:=cu;replace HB:=k0 (anH bl hb);clear hb aG hg)|((with_reducible refine bS (f:=110) rfl ?_);refine gC (some 4) Try.func110 #[.slice A0 l0.length c0] ?_;(with_reducible refine (eT.calls k _ _ l0 t102 t103 t104 w _ ?aA ?anD ?cP A2.z).mono ?_);(case aA=>repeat (first|(with_reducible first|exact HB.z|apply bn|apply bq|apply anS|refine az ?_ anQ.z)|exact HB.z));(case anD=>exact dh.z);(case cP=>exact fI.z);rintro e w5 ⟨g105,rfl,hi,hb,iU⟩;refine ⟨_,rfl,?_⟩;replace HB:=k0 (hb);have cT:=k0 (hi);have jR:=k0 (af.tO hi (cB (aB aa.z) iU) (by decide));have hU:=k0 (Ne.symm (af.tO hi (cB (aB aa.z) iU) (by decide)));replace aa:=kB aa iU;)|((with_reducible refine bS (f:=111) rfl ?_);refine gC (some 5) Try.func111 #[.pointer (some ⟨g105,0,none⟩)] ?_;(with_reducible refine (jO.calls k g105 t102 t103 t104 t106 t107 t110 t111 w _ ?aA ?anD A3.z).mono ?_);(case aA=>repeat (first|(with_reducible first|exact cT.z|apply af.alloc|apply af.drewN|apply af.drew|apply af.gq|apply af.gu|refine af.dM ?_ jR.z _)|exact cT.z));(case anD=>repeat (first|(with_reducible first|exact HB.z|apply bn|apply bq|apply anS|refine az ?_ (af.ge cT.z)|refine az ?_ anQ.z)|exact HB.z));rintro e w6 ⟨cw,rfl,aq,hi,hb,hk⟩;refine ⟨_,rfl,?_⟩;have dy:=k0 (Kd.o5 (Kd.anJ (ok':=fun k_=>(w.heap.size≤k_)∧k_ ≠ aW∧k_ ≠ g105) aq (fun k_ b9=>⟨(Nat.le_trans (anG (by repeat (first|(with_reducible first|exact HB.z|apply bn|apply bq|apply anS|refine az ?_ (af.ge cT.z)|refine az ?_ anQ.z)|exact HB.z))) b9),(Kd.oG (aB aa.z) k_ b9),(af.fresh (bB cT.z) k_ b9)⟩)) (anG (by repeat (first|(with_reducible first|exact HB.z|apply bn|apply bq|apply anS|refine az ?_ (af.ge cT.z)|refine az ?_ anQ.z)|exact HB.z))));replace aa:=k0 (aM.blk hk (aB aa.z) hU.z (by simp));replace HB:=k0 (hb);replace cT:=k0 (hi);have J2:=hU.z;have J6:=jR.z;have CR:=aX aa;have CS:=aY aa;have CZ:=bF aa 0;have C0:=bF aa 1;obtain ⟨s7,p_,xO⟩:=Kd.nA dy.z;subst xO))
 refine bodyPost_ret (results_cell_row rfl _ _ aW 31 #[.int .i64 t106,.slice s7 t107.length p_] (0,0) _ rfl (by (with_reducible repeat (first|refine anF ?_ _|refine aH ?_|refine aI ?_ _));refine anV (cs:=#[.int .i64 t106,.slice none 0 0]) ?_ 1 _ rfl;(with_reducible repeat (first|refine anF ?_ _|refine aH ?_|refine aI ?_ _));refine anV (cs:=#[.int .i64 0,.slice none 0 0]) ?_ 0 _ rfl;exact bk) Try.underlying31 rfl (by kernel_rfl)) rfl ?_
 exact ⟨_,eR,by (with_reducible repeat (first|apply Kd.cW|apply Kd.cX|apply Kd.cV));exact Kd.anJ (Kd.bG (p:=⟨aW,1,none⟩) (Kd.bG (p:=⟨aW,0,none⟩) (Kd.anJ dy.z (fun k_ hk=>(⟨hk,hk.2.1⟩:_∧k_ ≠ aW))) (fun _ hk=>hk.2) (.int .i64 t106)) (fun _ hk=>hk.2) (.slice s7 t107.length p_)) (fun _ hk=>hk.1.1),by repeat (first|(with_reducible first|exact HB.z|apply bn|apply bq|apply anS|refine az ?_ (af.ge cT.z)|refine az ?_ anQ.z)|exact HB.z)⟩
/-! ### F151: function 151 -/
theorem OI (w:World) (a:Option Addr) (n c:Nat):(binOp .eql 28 (.slice a n c) (.slice none 0 0)).run Try.prog w=.ok (.bool a.isNone) w:=Lib.run_eql_slice_nil w _ _ a n c 0 0 Try.underlying28
def qZ.f (l0:List Int):Option (List Int):=if l0.length < 17592186044416 then some l0 else none
theorem qZ.calls (A0 : Option Addr) (c0 : Nat) (l0 : List Int) (r : List Int) (w : World) (cL : Kd.C (Kd.int .i64) w A0 l0.length l0) (hc0 : l0.length ≤ c0) (h : qZ.f l0 = some r) :
  Calls Try.prog 151 #[.slice A0 l0.length c0] w fun e w'=>∃ dw:Value,e=.returned (dw)∧Kd.R (Kd.int .i64) 2 w' w.heap.size (fun _=>True) dw r∧Below w.heap.size w w':=by
 have dh:=k0 cL
 have fI:=k0 hc0
 clear cL hc0
 unfold qZ.f at h
 by_cases c2:l0.length < 17592186044416
 case neg =>
  rw [if_neg c2] at h
  exact absurd h (by simp)
 rw [if_pos c2] at h
 obtain rfl:=Option.some.inj h
 clear h
 cases A0 with
 | none =>
  have hn:l0=[]:=by
   by_cases hz:l0.length=0
   case neg =>
    obtain ⟨ad,e,_⟩:=Kd.cm dh.z 0 (by omega) (by omega)
    cases e
   exact List.eq_nil_of_length_eq_zero hz
  subst hn
  have q_:=OI
  go_enter Try.func151,Try.ntmps151
  go_wp2
  go_ret
  exact ⟨_,rfl,Kd.ny _ _ _ _ _,Below.refl _ _⟩
 | some ad =>
  have HB:=k0 (Below.refl w.heap.size w)
  have ap0:=k0 c2
  clear c2
  have q_:=OI
  go_enter Try.func151,Try.ntmps151
  go_wp2_with (first|((with_reducible refine bN (N:=5) rfl ?_);refine Kd.jd (Kd.int .i64) _ 2 ?hg (N:=5) ?hd (xs:=([]:List Int)) (inner:=[]) (ok:=fun _=>True) (anX:=fun _=>True) ?hr ?hp (fun _ hk=>hk) trivial (Below.refl _ _) (Nat.le_refl _) (by simp) ?_;(case hd=>rfl);(case hg=>rfl);(case hr=>first|(go_simp;done)|(go_simp;rfl));(case hp=>exact (bu.none _ _));intro aoK w3 gG hb c_ dc;clear c_ dc;have jQ:=k0 (Kd.cH gG (anG bl));replace HB:=k0 (anH bl hb);clear hb gG)|((with_reducible refine aoi (b:=.append) (xs:=#[.tmp 5,.tmp 6]) rfl ?_);at_builtin;refine Kd.EI (Kd.int .i64) (w0:=w) w.heap.size rfl (.tmp 5) (.tmp 6) 28 2 (.int .i64 0) 8 rfl Try.underlying28 aoj rfl (by decide) (by omega) aoK ([]:List Int) l0 _ _ _ (fun _=>True) (fun _=>False) rfl rfl ?aO ?aR (fun _ _ h=>h) (fun _ h=>h.elim) ?aF ?aB ?aS ?aL ?_;(case aR=>repeat (first|exact (Kd.dU dh.z HB.z)|(with_reducible refine Kd.hJ ?_ _)|(with_reducible refine Kd.aoc ?_ _)|(with_reducible refine Kd.gO ?_)));(case aB=>exact bl);(case aF=>exact (fun _ _=>trivial));(case aO=>exact (aR jQ.z));(case aS=>exact (anG bl));(case aL=>have:=ap0.out;simp;omega);intro v105 w5 ho hb hg bz;rw [List.nil_append] at ho;have av:=k0 (hb);have ax:=k0 (ho);clear HB;clear jQ;have HB:=av;have kS:=ax;clear av ax;clear ho hb hg bz))
  go_ret
  exact ⟨_,by first|rfl|(simp;done),by (with_reducible repeat (first|apply Kd.b_|apply Kd.bZ|apply Kd.bP));exact kS.z,bl⟩
/-! ### F168: function 168 -/
def iI.l0 : Nat → List Int → Option (List Int)
 | 0,_=>none
 | k+1,x0=>if (x0.length:Int) > 0 then (if 0≤(wrap64 ((x0.length:Int) - 1)) then (if (wrap64 ((x0.length:Int) - 1)) < (x0.length:Int) then (if (rd x0 (wrap64 ((x0.length:Int) - 1)))=0 then (if (wrap64 ((x0.length:Int) - 1))≤(x0.length:Int) then (iI.l0 k (x0.take ((wrap64 ((x0.length:Int) - 1)):Int).toNat)) else (none)) else ((qZ.f x0).bind fun t107=>(some t107))) else (none)) else (none)) else ((qZ.f x0).bind fun t110=>(some t110))
def iI.f (k:Nat) (l0:List Int):Option (List Int):=iI.l0 k l0
theorem iI.cC : ∀ k, (∀ y0, ag (iI.l0 k y0) (iI.l0 (k + 1) y0))
 | 0=>fun _ r h=>by simp [iI.l0] at h
 | k+1=>by
  have a_:=iI.cC k
  ·intro y0
   unfold iI.l0
   repeat' first
    | (with_reducible first|exact a_ _|exact ag.refl _|exact ag.none _|refine ag.ite ?_ ?_|refine ag.bind ?_ (fun _=>?_))
    | exact a_ _|exact ag.none _|refine ag.ite ?_ ?_|refine ag.bind ?_ (fun _=>?_)
theorem iI.mono:∀ a0 k,ag (iI.f k a0) (iI.f (k+1) a0):=by
 intro a0 k
 have a_:=iI.cC k
 unfold iI.f
 repeat' first
  | (with_reducible first|exact a_ _|exact ag.refl _|exact ag.none _|refine ag.ite ?_ ?_|refine ag.bind ?_ (fun _=>?_))
  | exact a_ _|exact ag.none _|refine ag.ite ?_ ?_|refine ag.bind ?_ (fun _=>?_)
theorem iI.calls (k : Nat) (HY : Nat → Prop) (A0 : Option Addr) (c0 : Nat) (l0 : List Int) (r : List Int) (w : World) (hs0 : Kd.V (Kd.int .i64) 2 w w.heap.size (fun k_ => HY k_) (.slice A0 l0.length c0) l0) (h : iI.f k l0 = some r) :
  Calls Try.prog 168 #[.slice A0 l0.length c0] w fun e w'=>∃ dw:Value,e=.returned (dw)∧Kd.R (Kd.int .i64) 2 w' w.heap.size (fun k_=>(w.heap.size≤k_)) dw r∧Below w.heap.size w w':=by
 have Vp:=k0 (show Kd.V (Kd.int .i64) 2 w w.heap.size (fun k_=>(HY k_∨w.heap.size≤k_)) (.slice A0 l0.length c0) l0 from Kd.anJ hs0 (fun k_ hk=>.inl hk))
 have HB:=k0 (Below.refl w.heap.size w)
 have H:(iI.l0 k l0)=some r:=h
 clear h
 have H':=k0 H
 clear H
 go_enter Try.func168,Try.ntmps168
 go_wp2
 go_loopg [0] k (fun kq v0 w'=>∃ (jn:List Int),ak (iI.l0 kq jn=some r)∧ak (kq≤k)∧ak (Kd.V (Kd.int .i64) 2 w' w.heap.size (fun k_=>(HY k_∨w.heap.size≤k_)) v0 jn)∧ak (Below w.heap.size w w'))
 case atStart=>exact ⟨(l0),H',⟨Nat.le_refl _⟩,⟨aV (Vp.z)⟩,⟨bl⟩⟩
 case round =>
  clear H'
  obtain ⟨jn,HA,bH,oX,HB⟩:=hrel
  cases gk with
  | zero=>exact absurd HA.z (by simp [iI.l0])
  | succ k1 =>
   have H:=HA.z
   clear HA
   simp only [iI.l0] at H
   by_cases c2:(jn.length:Int) > 0
   case neg =>
    rw [if_neg c2] at H
    have xG:decide (0 < (jn.length:Int))=false:=decide_eq_false c2
    have IE:decide (0 < jn.length)=false:=decide_eq_false (by omega)
    clear c2
    replace H:=Option.bind_eq_some_iff.mp H
    obtain ⟨t110,rN,H⟩:=H
    replace H:(some t110)=some r:=H
    have wY:=k0 rN
    clear rN
    obtain rfl:=Option.some.inj H
    obtain ⟨Eh,E0,IZ⟩:=Kd.nA oX.z
    subst IZ
    go_wp2_with (first|((with_reducible refine bS (f:=151) rfl ?_);refine gC (some 21) Try.func151 #[.slice Eh jn.length E0] ?_;(with_reducible refine (qZ.calls _ _ jn t110 _ ?aA ?anD wY.z).mono ?_);(case aA=>exact aC ((Kd.cN oX.z).2.2));(case anD=>exact (Kd.cN oX.z).2.1);rintro e DX ⟨Ty,rfl,aq,hb⟩;refine ⟨_,rfl,?_⟩;replace oX:=k0 (Kd.b8 (aV oX.z) (Kd.aU aq) hb);have zP:=k0 (Kd.cH (Kd.BO (M:=fun k_=>(w.heap.size≤k_)) aq (anG bl) (fun k_ h_=>h_)) (anG bl));replace HB:=k0 (anH bl hb);))
    go_ret
    exact ⟨_,eR,by (with_reducible repeat (first|apply Kd.b_|apply Kd.bZ|apply Kd.bP));exact Kd.aT zP.z (fun _ hk=>hk.1),bl⟩
   rw [if_pos c2] at H
   have xG:=decide_eq_true c2
   have IE:decide (0 < jn.length)=true:=decide_eq_true (by omega)
   clear c2
   obtain ⟨cy,mo⟩:∃ j_:Int,(wrap64 ((jn.length:Int) - 1))=j_:=⟨_,rfl⟩
   replace H:(if 0≤(cy) then (if (cy) < (jn.length:Int) then (if (rd jn (cy))=0 then (if (cy)≤(jn.length:Int) then (iI.l0 k1 (jn.take ((cy):Int).toNat)) else (none)) else ((qZ.f jn).bind fun t107=>(some t107))) else (none)) else (none))=some r:=by first|(rw [mo] at H;exact H)|(simp only [mo] at H ⊢;exact H)
   have Rc:(IntKind.i64.wrap ((jn.length:Int) - 1))=cy:=(dX _).trans mo
   replace H:=iS H;obtain ⟨c4,H⟩:=H
   have gT:=decide_eq_true c4
   clear c4
   replace H:=iS H;obtain ⟨c5,H⟩:=H
   have aoo:=decide_eq_true c5
   clear c5
   by_cases c6:(rd jn (cy))=0
   case neg =>
    rw [if_neg c6] at H
    have iD:((rd jn (cy)) == 0)=false:=beq_eq_false_iff_ne.mpr c6
    have oF:((rd jn (cy)) != 0)=true:=bne_iff_ne.mpr c6
    replace H:=Option.bind_eq_some_iff.mp H
    obtain ⟨t107,L7,H⟩:=H
    replace H:(some t107)=some r:=H
    have Uh:=k0 L7
    clear L7
    obtain rfl:=Option.some.inj H
    obtain ⟨Us,OP,IX⟩:=Kd.nA oX.z
    subst IX
    have ep:0≤((cy):Int):=oD
    have er:(cy) < (jn.length:Int):=oD
    obtain ⟨lA,e101,kF⟩:=Kd.cm (Kd.cN oX.z).2.2 (cy) ep er
    cases e101
    replace ep:=eq_true ep
    replace er:=eq_true er
    go_wp2_with (first|((with_reducible refine bS (f:=151) rfl ?_);refine gC (some 21) Try.func151 #[.slice (some lA) jn.length OP] ?_;(with_reducible refine (qZ.calls _ _ jn t107 _ ?aA ?anD Uh.z).mono ?_);(case aA=>exact aC ((Kd.cN oX.z).2.2));(case anD=>exact (Kd.cN oX.z).2.1);rintro e wP ⟨cw,rfl,aq,hb⟩;refine ⟨_,rfl,?_⟩;replace oX:=k0 (Kd.b8 (aV oX.z) (Kd.aU aq) hb);have dy:=k0 (Kd.cH (Kd.BO (M:=fun k_=>(w.heap.size≤k_)) aq (anG bl) (fun k_ h_=>h_)) (anG bl));replace HB:=k0 (anH bl hb);))
    go_ret
    exact ⟨_,by first|rfl|(simp [qa,qb]<;>rfl)|(simp only [← mo];first|rfl|(simp [qa,qb]<;>rfl))|(simp [*,qa,qb]<;>rfl),by (with_reducible repeat (first|apply Kd.b_|apply Kd.bZ|apply Kd.bP));exact Kd.aT dy.z (fun _ hk=>hk.1),bl⟩
   rw [if_pos c6] at H
   have iD:((rd jn (cy)) == 0)=true:=beq_iff_eq.mpr c6
   have oF:((rd jn (cy)) != 0)=false:=bne_eq_false_iff_eq.mpr c6
   clear c6
   have o7:=eq_true (oD:0≤(cy))
   replace H:=iS H;obtain ⟨c8,H⟩:=H
   have p8:=eq_true c8
   have ao5:=decide_eq_true c8
   clear c8
   obtain ⟨kA,mV⟩:∃ y_:List Int,y_=(jn.take ((cy):Int).toNat):=⟨_,rfl⟩
   replace H:(iI.l0 k1 kA)=some r:=rH mV H
   have aoI:=k0 mV
   clear mV
   have H':=k0 H
   clear H
   obtain ⟨s7,p_,xO⟩:=Kd.nA oX.z
   subst xO
   have ep:0≤((cy):Int):=oD
   have er:(cy) < (jn.length:Int):=oD
   obtain ⟨lA,e101,kF⟩:=Kd.cm (Kd.cN oX.z).2.2 (cy) ep er
   cases e101
   replace ep:=eq_true ep
   replace er:=eq_true er
   have Ld:((cy):Int)≤((jn.length:Int):Int):=oD
   obtain ⟨i010,C1,_,FC,_⟩:=info_parts aoj
   have R7:jn.length≤p_:=(Kd.cN oX.z).2.1
   have CB:Kd.F (Kd.int .i64) _ _ (some lA) jn.length jn:=(Kd.BQ (base:=w.heap.size) oX.z).2.2
   have Qb:=O8 (P:=Try.prog) 28 2 .i64 Try.underlying28 C1 (some lA) jn.length p_ (cy) oD Ld R7
   have J_:=Kd.UR (m:=((cy):Int).toNat) CB (by omega)
   have Kk:kA.length=((cy):Int).toNat:=(by rw [aoI.z,List.length_take];omega)
   rw [← aoI.z] at J_
   rw [← Kk] at Qb
   have kS:=k0 (show Kd.V (Kd.int .i64) 2 _ w.heap.size _ (.slice (some lA) kA.length p_) kA from Kd.BR (by omega) J_)
   have M_:=k0 (show kA.length≤p_ from by omega)
   clear J_ CB R7 C1 FC
   have agA:=k0 Kk
   clear Kk
   replace Ld:=eq_true Ld
   go_wp2
   first|go_roundg k1|(simp only [← mo];go_roundg k1)
   case measure=>have:=bH.z;omega
   case rel=>exact ⟨(kA),(by first|exact H'|(rw [mo];exact H')),⟨by have:=bH.z;omega⟩,⟨aV (kS.z)⟩,⟨bl⟩⟩
/-! ### F205: function 205 -/
mutual
def dI.l0 : Nat → List (List Int) → List (List Int) → List (List Int) → Int → Int → Option ((List (List Int)))
 | 0,_,_,_,_,_=>none
 | k+1,x1,x5,jo,kz,mE=>if mE < kz then (if 0≤mE then (if mE < (jo.length:Int) then (dI.l1 k x1 x5 mE jo kz mE (ai jo mE) ((ai jo mE).length:Int) 0) else (none)) else (none)) else (some x5)
def dI.l1 : Nat → List (List Int) → List (List Int) → Int → List (List Int) → Int → Int → List Int → Int → Int → Option ((List (List Int)))
 | 0,_,_,_,_,_,_,_,_,_=>none
 | k+1,x1,x5,x6,jo,kz,mE,gH,pV,ot=>if ot < pV then (if 0≤ot then (if ot < (gH.length:Int) then (if (rd gH ot)=0 then (dI.l1 k x1 x5 x6 jo kz mE gH pV (wrap64 (ot+1))) else (if ot < (x1.length:Int) then (dI.l2 k x1 x5 x6 (rd gH ot) jo kz mE gH pV ot (ai x1 ot) ((ai x1 ot).length:Int) 0) else (none))) else (none)) else (none)) else (dI.l0 k x1 x5 jo kz (wrap64 (mE+1)))
def dI.l2 : Nat → List (List Int) → List (List Int) → Int → Int → List (List Int) → Int → Int → List Int → Int → Int → List Int → Int → Int → Option ((List (List Int)))
 | 0,_,_,_,_,_,_,_,_,_,_,_,_,_=>none
 | k+1,x1,x5,x6,x9,jo,kz,mE,gH,pV,ot,L3,T',wT=>if wT < T' then (if 0≤wT then (if wT < (L3.length:Int) then (if 0≤x6 then (if x6 < (x5.length:Int) then (if wT < ((ai x5 x6).length:Int) then (dI.l2 k x1 (x5.set (x6:Int).toNat ((ai x5 x6).set (wT:Int).toNat (wrap64 ((rd (ai x5 x6) wT)+(wrap64 (x9 * (rd L3 wT))))))) x6 x9 jo kz mE gH pV ot L3 T' (wrap64 (wT+1))) else (none)) else (none)) else (none)) else (none)) else (none)) else (dI.l1 k x1 x5 x6 jo kz mE gH pV (wrap64 (ot+1)))
end
def dI.f (k:Nat) (l0:List (List Int)) (l1:List (List Int)):Option ((List (List Int))):=(fo.f k (l0.length:Int)).bind fun t101=>(dI.l0 k l1 t101 l0 (l0.length:Int) 0)
theorem dI.cC : ∀ k, (∀ y0 y1 y2 y3 y4, ag (dI.l0 k y0 y1 y2 y3 y4) (dI.l0 (k + 1) y0 y1 y2 y3 y4)) ∧ (∀ y0 y1 y2 y3 y4 y5 y6 y7 y8, ag (dI.l1 k y0 y1 y2 y3 y4 y5 y6 y7 y8) (dI.l1 (k + 1) y0 y1 y2 y3 y4 y5 y6 y7 y8)) ∧ (∀ y0 y1 y2 y3 y4 y5 y6 y7 y8 y9 wU D5 D6, ag (dI.l2 k y0 y1 y2 y3 y4 y5 y6 y7 y8 y9 wU D5 D6) (dI.l2 (k + 1) y0 y1 y2 y3 y4 y5 y6 y7 y8 y9 wU D5 D6))
 | 0=>⟨fun _ _ _ _ _ r h=>by simp [dI.l0] at h,fun _ _ _ _ _ _ _ _ _ r h=>by simp [dI.l1] at h,fun _ _ _ _ _ _ _ _ _ _ _ _ _ r h=>by simp [dI.l2] at h⟩
 | k+1=>by
  obtain ⟨a_,ih1,ih2⟩:=dI.cC k
  refine ⟨?_, ?_, ?_⟩ <;> intros <;> (first | unfold dI.l0 | unfold dI.l1 | unfold dI.l2) <;> repeat' first
   | (with_reducible first|exact a_ _ _ _ _ _|exact ih1 _ _ _ _ _ _ _ _ _|exact ih2 _ _ _ _ _ _ _ _ _ _ _ _ _|exact fo.mono _ _|exact ag.refl _|exact ag.none _|refine ag.ite ?_ ?_|refine ag.bind ?_ (fun _=>?_))
   | exact a_ _ _ _ _ _|exact ih1 _ _ _ _ _ _ _ _ _|exact ih2 _ _ _ _ _ _ _ _ _ _ _ _ _|exact fo.mono _ _|exact ag.none _|refine ag.ite ?_ ?_|refine ag.bind ?_ (fun _=>?_)
theorem dI.mono:∀ a0 a1 k,ag (dI.f k a0 a1) (dI.f (k+1) a0 a1):=by
 intro a0 a1 k
 obtain ⟨a_,ih1,ih2⟩:=dI.cC k
 unfold dI.f
 repeat' first
  | (with_reducible first|exact a_ _ _ _ _ _|exact ih1 _ _ _ _ _ _ _ _ _|exact ih2 _ _ _ _ _ _ _ _ _ _ _ _ _|exact fo.mono _ _|exact ag.refl _|exact ag.none _|refine ag.ite ?_ ?_|refine ag.bind ?_ (fun _=>?_))
  | exact a_ _ _ _ _ _|exact ih1 _ _ _ _ _ _ _ _ _|exact ih2 _ _ _ _ _ _ _ _ _ _ _ _ _|exact fo.mono _ _|exact ag.none _|refine ag.ite ?_ ?_|refine ag.bind ?_ (fun _=>?_)
theorem dI.calls (k : Nat) (A0 : Option Addr) (c0 : Nat) (l0 : List (List Int)) (A1 : Option Addr) (c1 : Nat) (l1 : List (List Int)) (r : List (List Int)) (w : World) (cL : Kd.C (Kd.slice 2 (Kd.int .i64)) w A0 l0.length l0) (hc0 : l0.length ≤ c0) (jK : Kd.C (Kd.slice 2 (Kd.int .i64)) w A1 l1.length l1) (jJ : l1.length ≤ c1) (h : dI.f k l0 l1 = some r) :
  Calls Try.prog 205 #[.slice A0 l0.length c0,.slice A1 l1.length c1] w fun e w'=>∃ dw:Value,e=.returned (dw)∧Kd.S (Kd.slice 2 (Kd.int .i64)) 28 w' w.heap.size (fun _=>True) dw r∧Below w.heap.size w w':=by
 have dh:=k0 cL
 have fI:=k0 hc0
 clear cL hc0
 have iQ:=k0 jK
 have td:=k0 jJ
 clear jK jJ
 have HB:=k0 (Below.refl w.heap.size w)
 have H:((fo.f k (l0.length:Int)).bind fun t101=>(dI.l0 k l1 t101 l0 (l0.length:Int) 0))=some r:=h
 clear h
 replace H:=Option.bind_eq_some_iff.mp H
 obtain ⟨t101,fS,H⟩:=H
 replace H:(dI.l0 k l1 t101 l0 (l0.length:Int) 0)=some r:=H
 have A3:=k0 fS
 clear fS
 have H':=k0 H
 clear H
 go_enter Try.func205,Try.ntmps205
 go_wp2_with (first|((with_reducible refine bS (f:=204) rfl ?_);refine gC (some 14) Try.func204 #[.int .i64 (l0.length:Int)] ?_;(with_reducible refine (fo.calls k (l0.length:Int) t101 _ A3.z).mono ?_);rintro e w4 ⟨aoK,rfl,aq,hb⟩;refine ⟨_,rfl,?_⟩;have jQ:=k0 (Kd.gD aq (anG bl));replace HB:=k0 (anH bl hb);))
 go_loopg [17] k (fun kq v17 w'=>∃ (bR:List (List Int)) (ey:Int),v17=.int .i64 ey∧ak (dI.l0 kq l1 bR l0 (l0.length:Int) ey=some r)∧ak (kq≤k)∧ak (Kd.S (Kd.slice 2 (Kd.int .i64)) 28 w' w.heap.size (fun _=>True) aoK bR)∧ak (Below w.heap.size w w'))
 case atStart=>exact ⟨(t101),(0),rs,H',⟨Nat.le_refl _⟩,⟨aS (jQ.z)⟩,⟨bl⟩⟩
 case round =>
  clear H'
  obtain ⟨bR,ey,rfl,HA,bH,bY,HB⟩:=hrel
  cases gk with
  | zero=>exact absurd HA.z (by simp [dI.l0])
  | succ k1 =>
   have H:=HA.z
   clear HA
   simp only [dI.l0] at H
   by_cases c5:ey < (l0.length:Int)
   case neg =>
    rw [if_neg c5] at H
    have aoo:decide (ey < (l0.length:Int))=false:=decide_eq_false c5
    clear c5
    obtain rfl:=Option.some.inj H
    go_wp2
    go_ret
    exact ⟨_,eR,by (with_reducible repeat (first|apply Kd.di|apply Kd.dm|apply Kd.cS));exact bY.z,bl⟩
   rw [if_pos c5] at H
   have aoo:=decide_eq_true c5
   clear c5
   replace H:=iS H;obtain ⟨c6,H⟩:=H
   have iD:=decide_eq_true c6
   clear c6
   replace H:=iS H;obtain ⟨c7,H⟩:=H
   have o7:=decide_eq_true c7
   clear c7
   have H':=k0 H
   clear H
   have eJ:0≤(ey:Int):=oD
   have eL:ey < (l0.length:Int):=oD
   obtain ⟨jY,Bd,B0,e104,eF,qg,qd⟩:=fu dh.z ey eJ eL
   cases e104
   replace eF:=hbc HB eF
   have tr:=k0 qd
   have Bw:=k0 qg
   clear qd qg
   replace eJ:=eq_true eJ
   replace eL:=eq_true eL
   go_wp2
   go_loopg [24] k1 (fun kq v24 w'=>∃ (gI:List (List Int)) (gi:Int),v24=.int .i64 gi∧ak (dI.l1 kq l1 gI ey l0 (l0.length:Int) ey (ai l0 ey) ((ai l0 ey).length:Int) gi=some r)∧ak (kq≤k1)∧ak (Kd.S (Kd.slice 2 (Kd.int .i64)) 28 w' w.heap.size (fun _=>True) aoK gI)∧ak (Below w.heap.size w w'))
   case atStart=>exact ⟨(bR),(0),rs,H',⟨Nat.le_refl _⟩,⟨aS (bY.z)⟩,⟨bl⟩⟩
   case round =>
    clear H'
    obtain ⟨gI,gi,rfl,HA,eo,bY,HB⟩:=hrel
    cases gk with
    | zero=>exact absurd HA.z (by simp [dI.l1])
    | succ k2 =>
     have H:=HA.z
     clear HA
     simp only [dI.l1] at H
     by_cases c8:gi < ((ai l0 ey).length:Int)
     case neg =>
      rw [if_neg c8] at H
      have p8:decide (gi < ((ai l0 ey).length:Int))=false:=decide_eq_false c8
      clear c8
      have H':=k0 H
      clear H
      go_wp2
      go_roundg k2
      case measure=>have:=bH.z;have:=eo.z;omega
      case rel=>exact ⟨(gI),(wrap64 (ey+1)),rs,H',⟨by have:=bH.z;have:=eo.z;omega⟩,⟨aS (bY.z)⟩,⟨bl⟩⟩
     rw [if_pos c8] at H
     have p8:=decide_eq_true c8
     clear c8
     replace H:=iS H;obtain ⟨c9,H⟩:=H
     have nY:=decide_eq_true c9
     clear c9
     replace H:=iS H;obtain ⟨c10,H⟩:=H
     have r9:=decide_eq_true c10
     clear c10
     by_cases c11:(rd (ai l0 ey) gi)=0
     case neg =>
      rw [if_neg c11] at H
      have lS:((rd (ai l0 ey) gi) == 0)=false:=beq_eq_false_iff_ne.mpr c11
      have uv:((rd (ai l0 ey) gi) != 0)=true:=bne_iff_ne.mpr c11
      replace H:=iS H;obtain ⟨c12,H⟩:=H
      have p6:=decide_eq_true c12
      clear c12
      have H':=k0 H
      clear H
      have fW:0≤(gi:Int):=oD
      have fX:gi < ((ai l0 ey).length:Int):=oD
      obtain ⟨mb,e105,fL⟩:=Kd.cm tr.z gi fW fX
      cases e105
      replace fL:=hbc HB fL
      replace fW:=eq_true fW
      replace fX:=eq_true fX
      have ji:0≤(gi:Int):=oD
      have jk:gi < (l1.length:Int):=oD
      obtain ⟨lB,afA,agJ,e106,gz,Rh,Q4⟩:=fu iQ.z gi ji jk
      cases e106
      replace gz:=hbc HB gz
      have Vy:=k0 Q4
      have agi:=k0 Rh
      clear Q4 Rh
      replace ji:=eq_true ji
      replace jk:=eq_true jk
      go_wp2
      go_loopg [36] k2 (fun kq v36 w'=>∃ (dL:List (List Int)) (ke:Int),v36=.int .i64 ke∧ak (dI.l2 kq l1 dL ey (rd (ai l0 ey) gi) l0 (l0.length:Int) ey (ai l0 ey) ((ai l0 ey).length:Int) gi (ai l1 gi) ((ai l1 gi).length:Int) ke=some r)∧ak (kq≤k2)∧ak (Kd.S (Kd.slice 2 (Kd.int .i64)) 28 w' w.heap.size (fun _=>True) aoK dL)∧ak (Below w.heap.size w w'))
      case atStart=>exact ⟨(gI),(0),rs,H',⟨Nat.le_refl _⟩,⟨aS (bY.z)⟩,⟨bl⟩⟩
      case round =>
       clear H'
       obtain ⟨dL,ke,rfl,HA,iK,bY,HB⟩:=hrel
       cases gk with
       | zero=>exact absurd HA.z (by simp [dI.l2])
       | succ k3 =>
        have H:=HA.z
        clear HA
        simp only [dI.l2] at H
        by_cases c13:ke < ((ai l1 gi).length:Int)
        case neg =>
         rw [if_neg c13] at H
         have aoJ:decide (ke < ((ai l1 gi).length:Int))=false:=decide_eq_false c13
         clear c13
         have H':=k0 H
         clear H
         go_wp2
         go_roundg k3
         case measure=>have:=bH.z;have:=eo.z;have:=iK.z;omega
         case rel=>exact ⟨(dL),(wrap64 (gi+1)),rs,H',⟨by have:=bH.z;have:=eo.z;have:=iK.z;omega⟩,⟨aS (bY.z)⟩,⟨bl⟩⟩
        rw [if_pos c13] at H
        have aoJ:=decide_eq_true c13
        clear c13
        replace H:=iS H;obtain ⟨c14,H⟩:=H
        have qC:=decide_eq_true c14
        clear c14
        replace H:=iS H;obtain ⟨c15,H⟩:=H
        have lD:=decide_eq_true c15
        clear c15
        replace H:=iS H;obtain ⟨c16,H⟩:=H
        have Iw:=decide_eq_true c16
        clear c16
        replace H:=iS H;obtain ⟨c17,H⟩:=H
        have uw:=decide_eq_true c17
        clear c17
        replace H:=iS H;obtain ⟨c18,H⟩:=H
        have Af:=decide_eq_true c18
        clear c18
        obtain ⟨zm,yl⟩:∃ y_:List Int,y_=((ai dL ey).set (ke:Int).toNat (wrap64 ((rd (ai dL ey) ke)+(wrap64 ((rd (ai l0 ey) gi) * (rd (ai l1 gi) ke)))))):=⟨_,rfl⟩
        replace H:(dI.l2 k3 l1 (dL.set (ey:Int).toNat zm) ey (rd (ai l0 ey) gi) l0 (l0.length:Int) ey (ai l0 ey) ((ai l0 ey).length:Int) gi (ai l1 gi) ((ai l1 gi).length:Int) (wrap64 (ke+1)))=some r:=rH yl H
        have ap4:=k0 yl
        clear yl
        obtain ⟨iA,sI⟩:∃ y_:List (List Int),y_=(dL.set (ey:Int).toNat zm):=⟨_,rfl⟩
        replace H:(dI.l2 k3 l1 iA ey (rd (ai l0 ey) gi) l0 (l0.length:Int) ey (ai l0 ey) ((ai l0 ey).length:Int) gi (ai l1 gi) ((ai l1 gi).length:Int) (wrap64 (ke+1)))=some r:=rH sI H
        have vO:=k0 sI
        clear sI
        have H':=k0 H
        clear H
        have jM:0≤(ke:Int):=oD
        have jN:ke < ((ai l1 gi).length:Int):=oD
        obtain ⟨lR,e107,jL⟩:=Kd.cm Vy.z ke jM jN
        cases e107
        replace jL:=hbc HB jL
        replace jM:=eq_true jM
        replace jN:=eq_true jN
        obtain ⟨oP,nC,pg⟩:=Kd.eH bY.z
        subst pg
        have kJ:0≤(ey:Int):=oD
        have kK:ey < (dL.length:Int):=oD
        obtain ⟨uo,afB,XA,e108,ku,Ri,Q5⟩:=fu (Kd.anY bY.z).2.2 ey kJ kK
        cases e108
        obtain ⟨ahc,aan,aae,PZ⟩:=Kd.o4 bY.z [] ey kJ (by first|exact kK|exact oD|(have e_:=(Kd.anY bY.z).1;omega))
        obtain ⟨anl,rfl,Ja⟩:=aae
        have Dq:=PZ 0 _ rfl
        rw [Nat.add_zero,show ((Kd.slice 2 (Kd.int .i64))).sz=1 from rfl,Nat.mul_one] at Dq
        replace Dq:=Option.some.inj (Dq.symm.trans ku)
        rw [Dq] at Ja
        have Hi:=k0 (show Kd.R (Kd.int .i64) 2 _ _ _ _ (ai dL ey) from Ja)
        clear Dq Ja
        have Ex:=k0 ku
        clear PZ aan
        have ND:=k0 Q5
        have agj:=k0 Ri
        clear Q5 Ri
        replace kJ:=eq_true kJ
        replace kK:=eq_true kK
        have rE:0≤(ke:Int):=oD
        have rF:ke < ((ai dL ey).length:Int):=oD
        obtain ⟨Ab,e109,sF⟩:=Kd.cm (by repeat (first|(with_reducible exact ND.z)|(with_reducible refine Kd.hJ ?_ _)|(with_reducible refine Kd.aoc ?_ _)|(with_reducible refine Kd.gO ?_)|exact ND.z)) ke rE rF
        cases e109
        replace rE:=eq_true rE
        replace rF:=eq_true rF
        have yQ:0≤(ke:Int):=oD
        have apk:(ke:Int) < (((ai dL ey).length:Int):Int):=oD
        obtain ⟨AA,we,tG,Cv,Jf,YA,Bz⟩:=Kd.vR Hi.z (by omega)
        (first|cases tG|(injection tG with dH jB jA;(first|subst dH|(injection dH with dH;subst dH));subst jA;clear jB))
        (first|simp only [add_plain] at sF|skip)
        have M0:=k0 Cv
        have M5:=k0 Bz
        clear Cv Jf Bz
        (first|simp only [add_plain] at sF|skip)
        obtain ⟨Sl,Qw⟩:=Kd.um 0 Hi.z (ke:Int) yQ apk
        replace yQ:=eq_true yQ
        replace apk:=eq_true apk
        have J':(ey:Int) < (dL.length:Int):=(by have h_:(ey:Int) < ((dL.length:Int):Int):=oD;first|exact h_|(have e_:=(Kd.anY bY.z).1;omega)|simpa only [List.length_set,List.length_set] using h_)
        obtain ⟨SZ,Yu,Jz,Jj,CJ,AM,CF⟩:=Kd.xq bY.z [] (ey:Int) oD (by first|exact J'|(have e_:=(Kd.anY bY.z).1;omega))
        obtain ⟨afn,rfl,sq⟩:=Jj
        have uN:=CJ 0 _ rfl
        rw [Nat.add_zero,show ((Kd.slice 2 (Kd.int .i64))).sz=1 from rfl,Nat.mul_one] at uN
        replace uN:=Option.some.inj (uN.symm.trans Ex.z)
        subst uN
        clear CJ Jz
        replace sq:=(show Kd.R (Kd.int .i64) 2 _ _ _ _ (ai dL ey) from sq)
        have tq:=Kd.xo sq (ke:Int) (wrap64 ((rd (ai dL ey) ke)+(wrap64 ((rd (ai l0 ey) gi) * (rd (ai l1 gi) ke)))))
        go_wp2_with (first|((with_reducible refine Pv (t:=2) (p:=52) rfl ?_);refine Tu (t:=2) (p:=52) (v:=?anw) (w1:=(wr.setCell ⟨AA,(ke:Int).toNat,none⟩ (.int .i64 (wrap64 ((rd (ai dL ey) ke)+(wrap64 ((rd (ai l0 ey) gi) * (rd (ai l1 gi) ke)))))))) ?hg ?ho ?hn ?hr ?_;(case ho=>rfl);(case hg=>rfl);(case hn=>rfl);(case hr=>first|(go_simp;done)|(go_simp;rfl));intro tT hw;have hg:wr.grownBy tT (some AA):=(by rw [hw];exact tq.2);have yy:Kd.R (Kd.int .i64) 2 tT w.heap.size SZ (.slice (some ⟨AA,0,none⟩) (ai dL ey).length XA) zm:=(by rw [hw,ap4.z];exact tq.1);have Dj:Kd.S (Kd.slice 2 (Kd.int .i64)) 28 tT w.heap.size (fun _=>True) (.slice (some uo) dL.length nC) iA:=(by rw [vO.z];exact CF hg (fun k_ e_=>by injection e_ with e_;subst e_;exact sq.1 _ rfl) (Kd.lg yy));have apj:=Kd.aT yy AM;clear tq CF;have av:=k0 (Dj);have ax:=k0 (uz hg Ex.z (xI (AM _ (sq.1 _ rfl)).2));have ay:=k0 ((by rw [hw];exact az (HB.z) M0.out:Below w.heap.size w tT));have anC:=k0 (apj);have aD:=k0 ((Kd.anT apj).2.1);clear bY;clear Ex;clear HB;clear Hi;have bY:=av;have Ex:=ax;have HB:=ay;have agr:=anC;have agl:=aD;clear av ax ay anC aD;clear hg hw Dj yy apj AM))
        go_roundg k3
        case measure=>have:=bH.z;have:=eo.z;have:=iK.z;omega
        case rel=>exact ⟨(iA),(wrap64 (ke+1)),rs,H',⟨by have:=bH.z;have:=eo.z;have:=iK.z;omega⟩,⟨aS (bY.z)⟩,⟨bl⟩⟩
     rw [if_pos c11] at H
     have lS:((rd (ai l0 ey) gi) == 0)=true:=beq_iff_eq.mpr c11
     have uv:((rd (ai l0 ey) gi) != 0)=false:=bne_eq_false_iff_eq.mpr c11
     clear c11
     have H':=k0 H
     clear H
     have fW:0≤(gi:Int):=oD
     have fX:gi < ((ai l0 ey).length:Int):=oD
     obtain ⟨mb,e105,fL⟩:=Kd.cm tr.z gi fW fX
     cases e105
     replace fL:=hbc HB fL
     replace fW:=eq_true fW
     replace fX:=eq_true fX
     go_wp2
     go_roundg k2
     case measure=>have:=bH.z;have:=eo.z;omega
     case rel=>exact ⟨(gI),(wrap64 (gi+1)),rs,H',⟨by have:=bH.z;have:=eo.z;omega⟩,⟨aS (bY.z)⟩,⟨bl⟩⟩
end Go.Proofs.Ytoebojnhchocaaa.G
/- Set with little white space, by a program. -/
