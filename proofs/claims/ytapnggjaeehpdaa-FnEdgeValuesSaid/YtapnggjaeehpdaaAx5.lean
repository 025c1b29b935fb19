/- The functions that one law reaches, each as a Lean function, and that Go's call comes to what it says. Condition of each: that the Lean function answers (is not none). -/
import Derived.Test.YtapnggjaeehpdaaAx0
import Derived.Test.YtapnggjaeehpdaaAx1
import Derived.Test.YtapnggjaeehpdaaAx2
import Derived.Test.YtapnggjaeehpdaaAx4
namespace Go.Proofs.Ytapnggjaeehpdaa.A
open Go.RowKit Go.Proofs.bB.dI Go.Proofs.bB.ark Go.Proofs.bB.jd
attribute [local go_sem] max2_int min2_int max_two min_two max_three min_three max_four min_four   -- for this text's walks alone
set_option linter.unusedVariables false
set_option linter.unusedSimpArgs false
set_option maxHeartbeats 8000000
set_option maxRecDepth 100000
/-! ### F129: function 129 -/
mutual
def c_.l0 : Nat → Int → Int → Bool → Int → List Int → Int → Int → Int → List (List Int) → Option (Int × (List (List Int)) × Int × Int)
 | 0,_,_,_,_,_,_,_,_,_=>none
 | k+1,x1,x2,x8,x9,lT,ar2,q6,q8,lU=>if x9 < x1 then (if x8=true then (c_.j1 k x1 x2 x8 x9 (decide ((lU.length:Int) < x2)) lT ar2 q6 q8 lU) else (c_.j1 k x1 x2 x8 x9 false lT ar2 q6 q8 lU)) else (c_.j1 k x1 x2 x8 x9 false lT ar2 q6 q8 lU)
def c_.j1 : Nat → Int → Int → Bool → Int → Bool → List Int → Int → Int → Int → List (List Int) → Option (Int × (List (List Int)) × Int × Int)
 | 0,_,_,_,_,_,_,_,_,_,_=>none
 | k+1,x1,x2,x8,x9,wo,lT,ar2,q6,q8,lU=>if wo=true then ((dK.f lT ar2 q6 x9).bind fun s8=>((dK.f lT s8.2.1 s8.2.2 2).bind fun qa=>(if qa.1=0 then (if lU.length < 5864062014805 then (c_.l0 k x1 x2 x8 (wrap64 (x9+1)) lT qa.2.1 qa.2.2 q8 (lU ++ [(([x9,s8.1]:List Int))])) else (none)) else (if lU.length < 5864062014805 then (c_.l0 k x1 x2 x8 (wrap64 (x9+1)) lT qa.2.1 qa.2.2 q8 (lU ++ [(([s8.1,x9]:List Int))])) else (none))))) else ((dK.f lT ar2 q6 (wrap64 (x2+1))).bind fun Lq=>(c_.l1 k x1 x2 Lq.1 lT Lq.2.1 Lq.2.2 q8 lU))
def c_.l1 : Nat → Int → Int → Int → List Int → Int → Int → Int → List (List Int) → Option (Int × (List (List Int)) × Int × Int)
 | 0,_,_,_,_,_,_,_,_=>none
 | k+1,x1,x2,aqS,lT,ar2,q6,q8,lU=>if aqS > 0 then (c_.j3 k x1 x2 aqS (decide ((lU.length:Int) < x2)) lT ar2 q6 q8 lU) else (c_.j3 k x1 x2 aqS false lT ar2 q6 q8 lU)
def c_.j3 : Nat → Int → Int → Int → Bool → List Int → Int → Int → Int → List (List Int) → Option (Int × (List (List Int)) × Int × Int)
 | 0,_,_,_,_,_,_,_,_,_=>none
 | k+1,x1,x2,aqS,x69,lT,ar2,q6,q8,lU=>if x69=true then ((dK.f lT ar2 q6 x1).bind fun nD=>((dK.f lT nD.2.1 nD.2.2 x1).bind fun lH=>(if nD.1=lH.1 then ((dK.f lT lH.2.1 lH.2.2 3).bind fun xU=>(if xU.1 > 0 then (if x1=0 then (none) else (if lU.length < 5864062014805 then (c_.l1 k x1 x2 (wrap64 (aqS - 1)) lT xU.2.1 xU.2.2 q8 (lU ++ [(([nD.1,Int.tmod (wrap64 (nD.1+1)) x1]:List Int))])) else (none))) else (if lU.length < 5864062014805 then (c_.l1 k x1 x2 (wrap64 (aqS - 1)) lT xU.2.1 xU.2.2 q8 (lU ++ [(([nD.1,lH.1]:List Int))])) else (none)))) else (if lU.length < 5864062014805 then (c_.l1 k x1 x2 (wrap64 (aqS - 1)) lT lH.2.1 lH.2.2 q8 (lU ++ [(([nD.1,lH.1]:List Int))])) else (none))))) else (some (q8,lU,ar2,q6))
end
def c_.f (k:Nat) (aJ:List Int) (bQ:Int) (bT:Int) (a1:Int) (a2:Int):Option (Int × (List (List Int)) × Int × Int):=(dK.f aJ bQ bT 3).bind fun dM=>(c_.l0 k a1 a2 (decide (dM.1 > 0)) 1 aJ dM.2.1 dM.2.2 a1 (([]:List (List Int))))
theorem c_.calls (k : Nat) (g : Nat) (aJ : List Int) (bQ : Int) (bT : Int) (a1 : Int) (a2 : Int) (r1 : Int) (r2 : List (List Int)) (r3 : Int) (r4 : Int) (w0 w : World) (hI : aj w0 w g aJ bQ bT) (hB : Below w0.heap.size w0 w) (h : c_.f k aJ bQ bT a1 a2 = some (r1, r2, r3, r4)) :
  Calls Try.prog 129 #[.pointer (some ⟨g,0,none⟩),.int .i64 a1,.int .i64 a2] w fun e w'=>∃ fK:Value,e=.returned (.agg #[.int .i64 r1,fK])∧Kd.S (Kd.slice 2 (Kd.int .i64)) 29 w' w.heap.size (fun _=>True) fK r2∧aj w0 w' g aJ r3 r4∧Below w0.heap.size w0 w'∧aqB w w' g none:=by
 have eE:=Try.underlying26
 have av:=k0 hI
 have HK:=k0 (aqB.refl w g none)
 have HL:=k0 hB.size
 clear hI
 have jv:=k0 hB.size
 have HB:=k0 hB
 clear hB
 unfold c_.f at h
 have H:=h
 clear h
 obtain ⟨gq,gv⟩:=nY (([]:List (List Int)):List (List Int))
 replace H:((dK.f aJ bQ bT 3).bind fun dM=>(c_.l0 k a1 a2 (decide (dM.1 > 0)) 1 aJ dM.2.1 dM.2.2 a1 gq))=some (r1,r2,r3,r4):=rH gv.z H
 replace H:=bS H;obtain ⟨⟨t106,t107,t108⟩,A4,H⟩:=H
 dsimp only at H
 have H':=k0 H
 clear H
 go_enter Try.func129,Try.ntmps129
 go_wp2_with (first|(refine aqI (N:=6) rfl ?_;(try (refine lM (by rfl) ?_;dsimp only));refine fu 6 #[.int .i64 0,.slice none 0 0] 26 ?_;intro aA hg w5 bq hb;replace HB:=k0 (dc (aG (aj.ge av.z) HB.z) hb);have aa:=k0 (bq);have aqF:=gW hg (dD (aK HK.z));have aqR:=k0 (Nat.le_trans jv.z aqF.z);replace HK:=k0 (aqB.trans (aK HK.z) (aqB.fO hb g none) (.inl rfl));have wF:=k0 ((by rw [hg];exact Nat.ne_of_lt (aj.lt (show aj w0 _ g aJ bQ bT from aqy av.z)):g ≠ aA));have dS:=k0 ((by rw [hg];exact Nat.ne_of_gt (aj.lt (show aj w0 _ g aJ bQ bT from aqy av.z)):aA ≠ g));replace av:=k0 (aj.below (aqy av.z) hb);clear hb bq hg)|(refine aqI (N:=15) rfl ?_;(try (refine lM (by rfl) ?_;dsimp only));refine Kd.zP (Kd.slice 2 (Kd.int .i64)) _ 29 ?hg (N:=15) ?hd (xs:=([]:List (List Int))) (inner:=[]) (ok:=fun _=>True) (bw:=fun _=>True) ?hr ?hp (fun _ hk=>hk) trivial (Below.refl _ _) (Nat.le_refl _) (by simp) ?_;(case hd=>rfl);(case hg=>rfl);(case hr=>first|(go_simp;done)|(go_simp;rfl));(case hp=>exact (aH.none _ _));intro ary w6 kY hb bH bI;clear bH bI;(first|rw [← gv.z] at kY|(simp only [Int.reduceToNat] at kY;rw [← gv.z] at kY));have bU:=k0 (Kd.fT kY (dD (aK HK.z)));replace aa:=kB aa hb;replace HK:=k0 (aqB.trans (aK HK.z) (aqB.fO hb g none) (.inl rfl));replace HB:=k0 (dc (aG (aj.ge av.z) HB.z) hb);replace av:=k0 (aj.below (aqy av.z) hb);clear hb kY;obtain ⟨wu,wP,rfl⟩:=Kd.dL bU.z)|(refine aqI (N:=7) rfl ?_;(try (refine lM (by rfl) ?_;dsimp only));refine fu 7 #[.int .i64 0,.slice none 0 0] 26 ?_;intro z7 hg w9 bq hb;replace bU:=iG bU hb;replace HB:=k0 (dc (aG (aj.ge av.z) HB.z) hb);have cB:=k0 (bq);have Y3:=gW hg (dD (aK HK.z));have akO:=k0 (Nat.le_trans jv.z Y3.z);replace HK:=k0 (aqB.trans (aK HK.z) (aqB.fO hb g none) (.inl rfl));have hU:=nL hg aa;have oU:=nG hU;replace aa:=kB aa hb;have al3:=k0 ((by rw [hg];exact Nat.ne_of_lt (aj.lt (show aj w0 _ g aJ bQ bT from aqy av.z)):g ≠ z7));have arB:=k0 ((by rw [hg];exact Nat.ne_of_gt (aj.lt (show aj w0 _ g aJ bQ bT from aqy av.z)):z7 ≠ g));replace av:=k0 (aj.below (aqy av.z) hb);clear hb bq hg;obtain ⟨_,_⟩:=nE oU;obtain ⟨_,_⟩:=nE arB;obtain ⟨_,_,_,_⟩:=aqA cB)|(refine aqz (f:=49) rfl ?_;refine gC (some 18) Try.func49 #[.pointer (some ⟨g,0,none⟩),.int .i64 3] ?_;(with_reducible refine (dK.calls g aJ bQ bT 3 t106 t107 t108 w0 _ ?aq ?au A4.z).mono ?_);(case aq=>exact aqy av.z);(case au=>exact aG (aj.ge av.z) HB.z);rintro e oC ⟨rfl,hi,hb,hk⟩;refine ⟨_,rfl,?_⟩;replace aa:=k0 (aqB.blk hk (g':=aA) (o:=.cells #[.int .i64 0,.slice none 0 0] 26 (0,0)) kZ dS.z (by simp));replace bU:=k0 (Kd.b6 (Kd.p8 (aj.oZ (show aj w0 _ g aJ bQ bT from aqy av.z) (AZ bU cB) (by decide)) hk (fun _ h=>h.2)) (fun _ h=>h.1));replace cB:=k0 (aqB.blk hk (g':=z7) (o:=sO a1 wu gq wP 26) kZ arB.z (by simp));replace HK:=k0 (aqB.trans (aK HK.z) hk (.inl rfl));replace HB:=k0 (hb);replace av:=k0 (hi)))
 go_loopg [9] k (fun kq v9 w'=>∃ (kH:Int) (vz:Int) (vB:Int) (q9:List (List Int)) (u106001:Value),v9=.int .i64 kH∧ai (c_.l0 kq a1 a2 (decide (t106 > 0)) kH aJ vz vB a1 q9=some (r1,r2,r3,r4))∧ai (kq≤k)∧ai (Kd.S (Kd.slice 2 (Kd.int .i64)) 29 w' w.heap.size (fun _=>True) u106001 q9)∧ai (w'.heap[aA]?=some (.cells #[.int .i64 0,(.slice none 0 0)] 26 (0,0)))∧ai (w'.heap[z7]?=some (.cells #[.int .i64 a1,u106001] 26 (0,0)))∧ai (aj w0 w' g aJ vz vB)∧ai (aqB w w' g none)∧ai (Below w0.heap.size w0 w'))
 case atStart=>exact ⟨(1),(t107),(t108),(gq),(.slice wu gq.length wP),rs,H',⟨Nat.le_refl _⟩,⟨aS (bU.z)⟩,⟨bk⟩,⟨bk⟩,⟨aqy av.z⟩,⟨aK HK.z⟩,⟨aG (aj.ge av.z) HB.z⟩⟩
 case round =>
  clear H'
  obtain ⟨kH,vz,vB,q9,u106001,rfl,HA,aI,b9,aa,cB,av,HK,HB⟩:=hrel
  cases gk with
  | zero=>exact absurd HA.z (by simp [c_.l0])
  | succ k1 =>
   have H:=HA.z
   clear HA
   simp only [c_.l0] at H
   have Ka:=k0 H
   clear H
   go_upto_region 4 with (fail)
   go_cut [32] (fun v32 wc=>∃ (kq:Nat) (Ju:Bool),v32=.bool Ju∧ai (c_.j1 kq a1 a2 (decide (t106 > 0)) kH Ju aJ vz vB a1 q9=some (r1,r2,r3,r4))∧ai (kq≤k1)∧ai (Kd.S (Kd.slice 2 (Kd.int .i64)) 29 wc w.heap.size (fun _=>True) u106001 q9)∧ai (wc.heap[aA]?=some (.cells #[.int .i64 0,(.slice none 0 0)] 26 (0,0)))∧ai (wc.heap[z7]?=some (.cells #[.int .i64 a1,u106001] 26 (0,0)))∧ai (aj w0 wc g aJ vz vB)∧ai (aqB w wc g none)∧ai (Below w0.heap.size w0 wc))
   case first =>
    have H:=Ka.z
    clear Ka
    replace H:=iC H;obtain ⟨kU,H⟩|⟨kU,H⟩:=H
    case inl =>
     (first|rw [kU]|(simp only [bJ,ck];rw [kU])|skip)
     have H':=k0 H
     clear H
     go_wp2
     go_meet
     case rel=>exact ⟨_,(false),rs,H',⟨by have:=aI.z;first|omega|exact Nat.le_refl _⟩,⟨aS (b9.z)⟩,⟨bk⟩,⟨bk⟩,⟨aqy av.z⟩,⟨aK HK.z⟩,⟨aG (aj.ge av.z) HB.z⟩⟩
    (first|rw [kU]|(simp only [bJ,ck];rw [kU])|skip)
    by_cases c16:(decide (t106 > 0))=true
    case neg =>
     rw [if_neg c16] at H
     have asK:(decide (t106 > 0))=false:=by simpa using c16
     clear c16
     have H':=k0 H
     clear H
     go_wp2
     go_meet
     case rel=>exact ⟨_,(false),rs,H',⟨by have:=aI.z;first|omega|exact Nat.le_refl _⟩,⟨aS (b9.z)⟩,⟨bk⟩,⟨bk⟩,⟨aqy av.z⟩,⟨aK HK.z⟩,⟨aG (aj.ge av.z) HB.z⟩⟩
    rw [if_pos c16] at H
    have asK:(decide (t106 > 0))=true:=c16
    clear c16
    have H':=k0 H
    clear H
    obtain ⟨_,_⟩:=nE oU
    obtain ⟨_,_⟩:=nE arB
    obtain ⟨_,_,_,_⟩:=aqA cB
    obtain ⟨C2,asG,rfl⟩:=Kd.dL b9.z
    go_wp2
    go_meet
    case rel=>exact ⟨_,(decide ((q9.length:Int) < a2)),rs,H',⟨by have:=aI.z;first|omega|exact Nat.le_refl _⟩,⟨aS (b9.z)⟩,⟨bk⟩,⟨bk⟩,⟨aqy av.z⟩,⟨aK HK.z⟩,⟨aG (aj.ge av.z) HB.z⟩⟩
   case rest =>
    clear Ka
    obtain ⟨kq,Ju,rfl,HA,sS,b9,aa,cB,av,HK,HB⟩:=hcut
    cases kq with
    | zero=>exact absurd HA.z (by simp [c_.j1])
    | succ yB =>
     have H:=HA.z
     clear HA
     simp only [c_.j1] at H
     cases Ju
     case false =>
      replace H:=iF H
      replace H:=bS H;obtain ⟨⟨t127,t128,t129⟩,JJ,H⟩:=H
      dsimp only at H
      have H':=k0 H
      clear H
      go_wp2_with (first|(refine aqz (f:=49) rfl ?_;refine gC (some 60) Try.func49 #[.pointer (some ⟨g,0,none⟩),.int .i64 (wrap64 (a2+1))] ?_;(with_reducible refine (dK.calls g aJ vz vB (wrap64 (a2+1)) t127 t128 t129 w0 _ ?aq ?au JJ.z).mono ?_);(case aq=>exact aqy av.z);(case au=>exact aG (aj.ge av.z) HB.z);rintro e w50 ⟨rfl,hi,hb,hk⟩;refine ⟨_,rfl,?_⟩;replace b9:=k0 (Kd.b6 (Kd.p8 (aj.oZ (show aj w0 _ g aJ vz vB from aqy av.z) (aS b9.z) (by decide)) hk (fun _ h=>h.2)) (fun _ h=>h.1));replace aa:=kK hk aa dS;replace cB:=kK hk cB arB;replace HK:=k0 (aqB.trans (aK HK.z) hk (.inl rfl));replace HB:=k0 (hb);replace av:=k0 (hi)))
      go_loopg [11] yB (fun kq v11 w'=>∃ (sD:Int) (vA:Int) (vC:Int) (mU:List (List Int)) (u106001:Value),v11=.int .i64 sD∧ai (c_.l1 kq a1 a2 sD aJ vA vC a1 mU=some (r1,r2,r3,r4))∧ai (kq≤yB)∧ai (Kd.S (Kd.slice 2 (Kd.int .i64)) 29 w' w.heap.size (fun _=>True) u106001 mU)∧ai (w'.heap[aA]?=some (.cells #[.int .i64 0,(.slice none 0 0)] 26 (0,0)))∧ai (w'.heap[z7]?=some (.cells #[.int .i64 a1,u106001] 26 (0,0)))∧ai (aj w0 w' g aJ vA vC)∧ai (aqB w w' g none)∧ai (Below w0.heap.size w0 w'))
      case atStart=>exact ⟨(t127),(t128),(t129),(q9),(u106001),rs,H',⟨Nat.le_refl _⟩,⟨aS (b9.z)⟩,⟨bk⟩,⟨bk⟩,⟨aqy av.z⟩,⟨aK HK.z⟩,⟨aG (aj.ge av.z) HB.z⟩⟩
      case round =>
       clear H'
       obtain ⟨sD,vA,vC,mU,u106001,rfl,HA,dR,b9,aa,cB,av,HK,HB⟩:=hrel
       cases gk with
       | zero=>exact absurd HA.z (by simp [c_.l1])
       | succ k3 =>
        have H:=HA.z
        clear HA
        simp only [c_.l1] at H
        have Kh:=k0 H
        clear H
        go_upto_region 11 with (fail)
        go_cut [69] (fun v69 wc=>∃ (kq:Nat) (Jw:Bool),v69=.bool Jw∧ai (c_.j3 kq a1 a2 sD Jw aJ vA vC a1 mU=some (r1,r2,r3,r4))∧ai (kq≤k3)∧ai (Kd.S (Kd.slice 2 (Kd.int .i64)) 29 wc w.heap.size (fun _=>True) u106001 mU)∧ai (wc.heap[aA]?=some (.cells #[.int .i64 0,(.slice none 0 0)] 26 (0,0)))∧ai (wc.heap[z7]?=some (.cells #[.int .i64 a1,u106001] 26 (0,0)))∧ai (aj w0 wc g aJ vA vC)∧ai (aqB w wc g none)∧ai (Below w0.heap.size w0 wc))
        case first =>
         have H:=Kh.z
         clear Kh
         replace H:=iC H;obtain ⟨as2,H⟩|⟨as2,H⟩:=H
         case inl =>
          (first|rw [as2]|(simp only [bJ,ck];rw [as2])|skip)
          have H':=k0 H
          clear H
          go_wp2
          go_meet
          case rel=>exact ⟨_,(false),rs,H',⟨by have:=aI.z;have:=sS.out;have:=dR.z;first|omega|exact Nat.le_refl _⟩,⟨aS (b9.z)⟩,⟨bk⟩,⟨bk⟩,⟨aqy av.z⟩,⟨aK HK.z⟩,⟨aG (aj.ge av.z) HB.z⟩⟩
         (first|rw [as2]|(simp only [bJ,ck];rw [as2])|skip)
         have H':=k0 H
         clear H
         obtain ⟨_,_⟩:=nE oU
         obtain ⟨_,_⟩:=nE arB
         obtain ⟨_,_,_,_⟩:=aqA cB
         obtain ⟨kJ,kV,rfl⟩:=Kd.dL b9.z
         go_wp2
         go_meet
         case rel=>exact ⟨_,(decide ((mU.length:Int) < a2)),rs,H',⟨by have:=aI.z;have:=sS.out;have:=dR.z;first|omega|exact Nat.le_refl _⟩,⟨aS (b9.z)⟩,⟨bk⟩,⟨bk⟩,⟨aqy av.z⟩,⟨aK HK.z⟩,⟨aG (aj.ge av.z) HB.z⟩⟩
        case rest =>
         clear Kh
         obtain ⟨kq,Jw,rfl,HA,Bp,b9,aa,cB,av,HK,HB⟩:=hcut
         cases kq with
         | zero=>exact absurd HA.z (by simp [c_.j3])
         | succ wX =>
          have H:=HA.z
          clear HA
          simp only [c_.j3] at H
          cases Jw
          case false =>
           replace H:=iF H
           simp only [Option.some.injEq,Prod.mk.injEq] at H
           obtain ⟨rfl,rfl,rfl,rfl⟩:=H
           obtain ⟨_,_⟩:=nE oU
           obtain ⟨_,_⟩:=nE arB
           obtain ⟨_,_,_,_⟩:=aqA cB
           obtain ⟨_,_⟩:=nE dS
           obtain ⟨_,_,_,_⟩:=aqA aa
           obtain ⟨Pk,Ss,rfl⟩:=Kd.dL b9.z
           go_wp2
           refine bodyPost_ret (results_cell_row rfl _ _ aA 26 #[.int .i64 a1,.slice Pk mU.length Ss] (0,0) _ rfl kZ Try.underlying26 rfl (by kernel_rfl)) rfl ?_
           exact ⟨_,eR,aS (Kd.b6 (gS 1 (.slice Pk mU.length Ss) (gS 0 (.int .i64 a1) (tS b9 aa))) (fun _ hk=>trivial)),aqy av.z,aG (aj.ge av.z) HB.z,aK HK.z⟩
          replace H:=iT H
          replace H:=bS H;obtain ⟨⟨t130,t131,t132⟩,JK,H⟩:=H
          dsimp only at H
          replace H:=bS H;obtain ⟨⟨t133,t134,t135⟩,JL,H⟩:=H
          dsimp only at H
          replace H:=iE H;obtain ⟨c60,asM,LG,H⟩|⟨asM,LG,H⟩:=H
          case inl =>
           obtain ⟨pM,um⟩:=nY (([t130,t133]:List Int):List Int)
           replace H:(if mU.length < 5864062014805 then (c_.l1 wX a1 a2 (wrap64 (sD - 1)) aJ t134 t135 a1 (mU ++ [pM])) else (none))=some (r1,r2,r3,r4):=rH um.z H
           replace H:=iS H;obtain ⟨c90,H⟩:=H
           have atv:=k0 c90
           clear c90
           obtain ⟨JB,QX⟩:=nY (mU ++ [pM]:List (List Int))
           replace H:(c_.l1 wX a1 a2 (wrap64 (sD - 1)) aJ t134 t135 a1 JB)=some (r1,r2,r3,r4):=rH QX.z H
           have H':=k0 H
           clear H
           go_wp2_with (first|(refine aqz (f:=49) rfl ?_;refine gC (some 74) Try.func49 #[.pointer (some ⟨g,0,none⟩),.int .i64 a1] ?_;(with_reducible refine (dK.calls g aJ vA vC a1 t130 t131 t132 w0 _ ?aq ?au JK.z).mono ?_);(case aq=>exact aqy av.z);(case au=>exact aG (aj.ge av.z) HB.z);rintro e w91 ⟨rfl,hi,hb,hk⟩;refine ⟨_,rfl,?_⟩;replace b9:=k0 (Kd.b6 (Kd.p8 (aj.oZ (show aj w0 _ g aJ vA vC from aqy av.z) (aS b9.z) (by decide)) hk (fun _ h=>h.2)) (fun _ h=>h.1));replace aa:=kK hk aa dS;replace cB:=kK hk cB arB;replace HK:=k0 (aqB.trans (aK HK.z) hk (.inl rfl));replace HB:=k0 (hb);replace av:=k0 (hi))|(refine aqz (f:=49) rfl ?_;refine gC (some 77) Try.func49 #[.pointer (some ⟨g,0,none⟩),.int .i64 a1] ?_;(with_reducible refine (dK.calls g aJ t131 t132 a1 t133 t134 t135 w0 _ ?aq ?au JL.z).mono ?_);(case aq=>exact aqy av.z);(case au=>exact aG (aj.ge av.z) HB.z);rintro e w92 ⟨rfl,hi,hb,hk⟩;refine ⟨_,rfl,?_⟩;replace b9:=k0 (Kd.b6 (Kd.p8 (aj.oZ (show aj w0 _ g aJ t131 t132 from aqy av.z) (aS b9.z) (by decide)) hk (fun _ h=>h.2)) (fun _ h=>h.1));replace aa:=kK hk aa dS;replace cB:=kK hk cB arB;replace HK:=k0 (aqB.trans (aK HK.z) hk (.inl rfl));replace HB:=k0 (hb);replace av:=k0 (hi);obtain ⟨_,_⟩:=nE oU;obtain ⟨_,_⟩:=nE arB;obtain ⟨_,_,_,_⟩:=aqA cB)|(refine aqI (N:=94) rfl ?_;(try (refine lM (by rfl) ?_;dsimp only));refine Kd.gw (Kd.int .i64) _ 2 ?hg (N:=94) ?hd (xs:=([t130,t133]:List Int)) (inner:=[.int .i64 t130,.int .i64 t133]) (ok:=fun _=>True) (bw:=fun _=>True) ?hr ?hp (fun _ hk=>hk) trivial (Below.refl _ _) (Nat.le_refl _) (by simp) ?_;(case hd=>rfl);(case hg=>rfl);(case hr=>first|(go_simp;done)|(go_simp;rfl));(case hp=>exact (aH.one (show Kd.M (Kd.int .i64) _ _ _ t130 [.int .i64 t130] from rfl) (aH.one (show Kd.M (Kd.int .i64) _ _ _ t133 [.int .i64 t133] from rfl) (aH.none _ _))));intro ajw w96 Cu hb bH bI;clear bH bI;(first|rw [← um.z] at Cu|(simp only [Int.reduceToNat] at Cu;rw [← um.z] at Cu));replace b9:=iw b9 (Kd.cm Cu) hb;have Bs:=k0 (Kd.cA Cu (dD (aK HK.z)));replace aa:=kB aa hb;replace cB:=kB cB hb;replace HK:=k0 (aqB.trans (aK HK.z) (aqB.fO hb g none) (.inl rfl));replace HB:=k0 (dc (aG (aj.ge av.z) HB.z) hb);replace av:=k0 (aj.below (aqy av.z) hb);clear hb Cu;obtain ⟨C6,D7,rfl⟩:=Kd.cy Bs.z)|((with_reducible refine ars (b:=.append) (xs:=#[.tmp 91,.tmp 95]) rfl ?_);(try (refine lM (by rfl) ?_;dsimp only));at_builtin;refine Kd.asc (Kd.slice 2 (Kd.int .i64)) w.heap.size rfl (.tmp 91) (.tmp 95) 24 29 (.slice none 0 0) 24 rfl Try.underlying24 o_ rfl (by decide) (by omega) u106001 mU pM [.slice C6 pM.length D7] (fun _=>True) (fun k_=>some k_=(.slice C6 pM.length D7:Value).ownBlock) rfl rfl ?aP (fun k_ aqJ=>((Kd.aqM (ok':=fun k_=>((fun _=>True)) k_∧some k_ ≠ (u106001:Value).ownBlock) (Kd.aq' (Bs.z) (Kd.fH b9.z) (by decide)) (fun k_ hk=>⟨trivial,hk.2⟩))).1 k_ aqJ.symm) ?aF ?aO (Below.refl _ _) ?aS ?aL ?_;(case aP=>exact Kd.lD (Kd.aqM (Kd.oV rfl (Kd.aqM (ok':=fun k_=>((fun _=>True)) k_∧some k_ ≠ (u106001:Value).ownBlock) (Kd.aq' (Bs.z) (Kd.fH b9.z) (by decide)) (fun k_ hk=>⟨trivial,hk.2⟩))) (fun _ h_=>h_)));(case aF=>exact (fun _ _=>trivial));(case aO=>exact (aS (Kd.b6 b9.z (fun k_ hk=>⟨trivial,fun e_=>hk.2 e_⟩))));(case aS=>exact (dD (aK HK.z)));(case aL=>have:=atv.out;omega);intro apw w98 ho hb hg bg;rw [← QX.z] at ho;replace aa:=k0 (aq2 (aB aa.z) hg (Kd.arl b9.z aa.z (by decide)));replace cB:=k0 (aq2 (aB cB.z) hg (Kd.arl b9.z cB.z (by decide)));replace HB:=k0 (xS (aG (aj.ge av.z) HB.z) HL.z hb);replace av:=k0 (aj.grown (aqy av.z) hg (aj.AA av.z b9.z (by decide)));replace HK:=k0 (aqB.trans (aK HK.z) (aqB.aso hg g) (Kd.zM b9.z));have Qe:=k0 (ho);clear b9 Bs;clear ho hb hg bg;obtain ⟨Ph,Sq,rfl⟩:=Kd.dL Qe.z;obtain ⟨_,_,_,_⟩:=aqA cB))
           go_roundg wX
           case measure=>have:=aI.z;have:=sS.out;have:=dR.z;have:=Bp.out;omega
           case rel=>exact ⟨(wrap64 (sD - 1)),(t134),(t135),(JB),(.slice Ph JB.length Sq),rs,H',⟨by have:=aI.z;have:=sS.out;have:=dR.z;have:=Bp.out;omega⟩,⟨aS (Kd.b6 (gS 1 (.slice Ph JB.length Sq) (tS Qe cB)) (fun _ hk=>trivial))⟩,⟨kZ⟩,⟨kZ⟩,⟨aqy av.z⟩,⟨aK HK.z⟩,⟨aG (aj.ge av.z) HB.z⟩⟩
          replace H:=bS H;obtain ⟨⟨t136,t137,t138⟩,Gn,H⟩:=H
          dsimp only at H
          replace H:=iC H;obtain ⟨ac6,H⟩|⟨ac6,H⟩:=H
          case inl =>
           obtain ⟨Gi,K2⟩:=nY (([t130,t133]:List Int):List Int)
           replace H:(if mU.length < 5864062014805 then (c_.l1 wX a1 a2 (wrap64 (sD - 1)) aJ t137 t138 a1 (mU ++ [Gi])) else (none))=some (r1,r2,r3,r4):=rH K2.z H
           replace H:=iS H;obtain ⟨c77,H⟩:=H
           have aai:=k0 c77
           clear c77
           obtain ⟨zi,Dz⟩:=nY (mU ++ [Gi]:List (List Int))
           replace H:(c_.l1 wX a1 a2 (wrap64 (sD - 1)) aJ t137 t138 a1 zi)=some (r1,r2,r3,r4):=rH Dz.z H
           have H':=k0 H
           clear H
           go_wp2_with (first|(refine aqz (f:=49) rfl ?_;refine gC (some 74) Try.func49 #[.pointer (some ⟨g,0,none⟩),.int .i64 a1] ?_;(with_reducible refine (dK.calls g aJ vA vC a1 t130 t131 t132 w0 _ ?aq ?au JK.z).mono ?_);(case aq=>exact aqy av.z);(case au=>exact aG (aj.ge av.z) HB.z);rintro e w78 ⟨rfl,hi,hb,hk⟩;refine ⟨_,rfl,?_⟩;replace b9:=k0 (Kd.b6 (Kd.p8 (aj.oZ (show aj w0 _ g aJ vA vC from aqy av.z) (aS b9.z) (by decide)) hk (fun _ h=>h.2)) (fun _ h=>h.1));replace aa:=kK hk aa dS;replace cB:=kK hk cB arB;replace HK:=k0 (aqB.trans (aK HK.z) hk (.inl rfl));replace HB:=k0 (hb);replace av:=k0 (hi))|(refine aqz (f:=49) rfl ?_;refine gC (some 77) Try.func49 #[.pointer (some ⟨g,0,none⟩),.int .i64 a1] ?_;(with_reducible refine (dK.calls g aJ t131 t132 a1 t133 t134 t135 w0 _ ?aq ?au JL.z).mono ?_);(case aq=>exact aqy av.z);(case au=>exact aG (aj.ge av.z) HB.z);rintro e w79 ⟨rfl,hi,hb,hk⟩;refine ⟨_,rfl,?_⟩;replace b9:=k0 (Kd.b6 (Kd.p8 (aj.oZ (show aj w0 _ g aJ t131 t132 from aqy av.z) (aS b9.z) (by decide)) hk (fun _ h=>h.2)) (fun _ h=>h.1));replace aa:=kK hk aa dS;replace cB:=kK hk cB arB;replace HK:=k0 (aqB.trans (aK HK.z) hk (.inl rfl));replace HB:=k0 (hb);replace av:=k0 (hi))|(go_at_call 49;(with_reducible refine (dK.calls g aJ t134 t135 3 t136 t137 t138 w0 _ ?aq ?au Gn.z).mono ?_);(case aq=>exact aqy av.z);(case au=>exact aG (aj.ge av.z) HB.z);rintro e CW ⟨rfl,hi,hb,hk⟩;replace b9:=k0 (Kd.b6 (Kd.p8 (aj.oZ (show aj w0 _ g aJ t134 t135 from aqy av.z) (aS b9.z) (by decide)) hk (fun _ h=>h.2)) (fun _ h=>h.1));replace aa:=kK hk aa dS;replace cB:=kK hk cB arB;replace HK:=k0 (aqB.trans (aK HK.z) hk (.inl rfl));replace HB:=k0 (hb);replace av:=k0 (hi);obtain ⟨_,_⟩:=nE oU;obtain ⟨_,_⟩:=nE arB;obtain ⟨_,_,_,_⟩:=aqA cB)|(refine aqI (N:=94) rfl ?_;(try (refine lM (by rfl) ?_;dsimp only));refine Kd.gw (Kd.int .i64) _ 2 ?hg (N:=94) ?hd (xs:=([t130,t133]:List Int)) (inner:=[.int .i64 t130,.int .i64 t133]) (ok:=fun _=>True) (bw:=fun _=>True) ?hr ?hp (fun _ hk=>hk) trivial (Below.refl _ _) (Nat.le_refl _) (by simp) ?_;(case hd=>rfl);(case hg=>rfl);(case hr=>first|(go_simp;done)|(go_simp;rfl));(case hp=>exact (aH.one (show Kd.M (Kd.int .i64) _ _ _ t130 [.int .i64 t130] from rfl) (aH.one (show Kd.M (Kd.int .i64) _ _ _ t133 [.int .i64 t133] from rfl) (aH.none _ _))));intro apt w84 Cs hb bH bI;clear bH bI;(first|rw [← K2.z] at Cs|(simp only [Int.reduceToNat] at Cs;rw [← K2.z] at Cs));replace b9:=iw b9 (Kd.cm Cs) hb;have atd:=k0 (Kd.cA Cs (dD (aK HK.z)));replace aa:=kB aa hb;replace cB:=kB cB hb;replace HK:=k0 (aqB.trans (aK HK.z) (aqB.fO hb g none) (.inl rfl));replace HB:=k0 (dc (aG (aj.ge av.z) HB.z) hb);replace av:=k0 (aj.below (aqy av.z) hb);clear hb Cs;obtain ⟨JW,LY,rfl⟩:=Kd.cy atd.z)|((with_reducible refine ars (b:=.append) (xs:=#[.tmp 91,.tmp 95]) rfl ?_);(try (refine lM (by rfl) ?_;dsimp only));at_builtin;refine Kd.asc (Kd.slice 2 (Kd.int .i64)) w.heap.size rfl (.tmp 91) (.tmp 95) 24 29 (.slice none 0 0) 24 rfl Try.underlying24 o_ rfl (by decide) (by omega) u106001 mU Gi [.slice JW Gi.length LY] (fun _=>True) (fun k_=>some k_=(.slice JW Gi.length LY:Value).ownBlock) rfl rfl ?aP (fun k_ aqJ=>((Kd.aqM (ok':=fun k_=>((fun _=>True)) k_∧some k_ ≠ (u106001:Value).ownBlock) (Kd.aq' (atd.z) (Kd.fH b9.z) (by decide)) (fun k_ hk=>⟨trivial,hk.2⟩))).1 k_ aqJ.symm) ?aF ?aO (Below.refl _ _) ?aS ?aL ?_;(case aP=>exact Kd.lD (Kd.aqM (Kd.oV rfl (Kd.aqM (ok':=fun k_=>((fun _=>True)) k_∧some k_ ≠ (u106001:Value).ownBlock) (Kd.aq' (atd.z) (Kd.fH b9.z) (by decide)) (fun k_ hk=>⟨trivial,hk.2⟩))) (fun _ h_=>h_)));(case aF=>exact (fun _ _=>trivial));(case aO=>exact (aS (Kd.b6 b9.z (fun k_ hk=>⟨trivial,fun e_=>hk.2 e_⟩))));(case aS=>exact (dD (aK HK.z)));(case aL=>have:=aai.out;omega);intro apv w86 ho hb hg bg;rw [← Dz.z] at ho;replace aa:=k0 (aq2 (aB aa.z) hg (Kd.arl b9.z aa.z (by decide)));replace cB:=k0 (aq2 (aB cB.z) hg (Kd.arl b9.z cB.z (by decide)));replace HB:=k0 (xS (aG (aj.ge av.z) HB.z) HL.z hb);replace av:=k0 (aj.grown (aqy av.z) hg (aj.AA av.z b9.z (by decide)));replace HK:=k0 (aqB.trans (aK HK.z) (aqB.aso hg g) (Kd.zM b9.z));have Qd:=k0 (ho);clear b9 atd;clear ho hb hg bg;obtain ⟨C5,D6,rfl⟩:=Kd.dL Qd.z;obtain ⟨_,_,_,_⟩:=aqA cB))
           go_roundg wX
           case measure=>have:=aI.z;have:=sS.out;have:=dR.z;have:=Bp.out;omega
           case rel=>exact ⟨(wrap64 (sD - 1)),(t137),(t138),(zi),(.slice C5 zi.length D6),rs,H',⟨by have:=aI.z;have:=sS.out;have:=dR.z;have:=Bp.out;omega⟩,⟨aS (Kd.b6 (gS 1 (.slice C5 zi.length D6) (tS Qd cB)) (fun _ hk=>trivial))⟩,⟨kZ⟩,⟨kZ⟩,⟨aqy av.z⟩,⟨aK HK.z⟩,⟨aG (aj.ge av.z) HB.z⟩⟩
          by_cases c63:a1=0
          case neg =>
           rw [if_neg c63] at H
           have as3:=beq_eq_false_iff_ne.mpr c63
           have R7:=bne_iff_ne.mpr c63
           obtain ⟨Gh,K1⟩:=nY (([t130,Int.tmod (wrap64 (t130+1)) a1]:List Int):List Int)
           replace H:(if mU.length < 5864062014805 then (c_.l1 wX a1 a2 (wrap64 (sD - 1)) aJ t137 t138 a1 (mU ++ [Gh])) else (none))=some (r1,r2,r3,r4):=rH K1.z H
           replace H:=iS H;obtain ⟨c64,H⟩:=H
           have aag:=k0 c64
           clear c64
           obtain ⟨JA,QT⟩:=nY (mU ++ [Gh]:List (List Int))
           replace H:(c_.l1 wX a1 a2 (wrap64 (sD - 1)) aJ t137 t138 a1 JA)=some (r1,r2,r3,r4):=rH QT.z H
           have H':=k0 H
           clear H
           go_wp2_with (first|(refine aqz (f:=49) rfl ?_;refine gC (some 74) Try.func49 #[.pointer (some ⟨g,0,none⟩),.int .i64 a1] ?_;(with_reducible refine (dK.calls g aJ vA vC a1 t130 t131 t132 w0 _ ?aq ?au JK.z).mono ?_);(case aq=>exact aqy av.z);(case au=>exact aG (aj.ge av.z) HB.z);rintro e ata ⟨rfl,hi,hb,hk⟩;refine ⟨_,rfl,?_⟩;replace b9:=k0 (Kd.b6 (Kd.p8 (aj.oZ (show aj w0 _ g aJ vA vC from aqy av.z) (aS b9.z) (by decide)) hk (fun _ h=>h.2)) (fun _ h=>h.1));replace aa:=kK hk aa dS;replace cB:=kK hk cB arB;replace HK:=k0 (aqB.trans (aK HK.z) hk (.inl rfl));replace HB:=k0 (hb);replace av:=k0 (hi))|(refine aqz (f:=49) rfl ?_;refine gC (some 77) Try.func49 #[.pointer (some ⟨g,0,none⟩),.int .i64 a1] ?_;(with_reducible refine (dK.calls g aJ t131 t132 a1 t133 t134 t135 w0 _ ?aq ?au JL.z).mono ?_);(case aq=>exact aqy av.z);(case au=>exact aG (aj.ge av.z) HB.z);rintro e atb ⟨rfl,hi,hb,hk⟩;refine ⟨_,rfl,?_⟩;replace b9:=k0 (Kd.b6 (Kd.p8 (aj.oZ (show aj w0 _ g aJ t131 t132 from aqy av.z) (aS b9.z) (by decide)) hk (fun _ h=>h.2)) (fun _ h=>h.1));replace aa:=kK hk aa dS;replace cB:=kK hk cB arB;replace HK:=k0 (aqB.trans (aK HK.z) hk (.inl rfl));replace HB:=k0 (hb);replace av:=k0 (hi))|(go_at_call 49;(with_reducible refine (dK.calls g aJ t134 t135 3 t136 t137 t138 w0 _ ?aq ?au Gn.z).mono ?_);(case aq=>exact aqy av.z);(case au=>exact aG (aj.ge av.z) HB.z);rintro e w67 ⟨rfl,hi,hb,hk⟩;replace b9:=k0 (Kd.b6 (Kd.p8 (aj.oZ (show aj w0 _ g aJ t134 t135 from aqy av.z) (aS b9.z) (by decide)) hk (fun _ h=>h.2)) (fun _ h=>h.1));replace aa:=kK hk aa dS;replace cB:=kK hk cB arB;replace HK:=k0 (aqB.trans (aK HK.z) hk (.inl rfl));replace HB:=k0 (hb);replace av:=k0 (hi);obtain ⟨_,_⟩:=nE oU;obtain ⟨_,_⟩:=nE arB;obtain ⟨_,_,_,_⟩:=aqA cB)|(refine aqI (N:=94) rfl ?_;(try (refine lM (by rfl) ?_;dsimp only));refine Kd.gw (Kd.int .i64) _ 2 ?hg (N:=94) ?hd (xs:=([t130,Int.tmod (wrap64 (t130+1)) a1]:List Int)) (inner:=[.int .i64 t130,.int .i64 (Int.tmod (wrap64 (t130+1)) a1)]) (ok:=fun _=>True) (bw:=fun _=>True) ?hr ?hp (fun _ hk=>hk) trivial (Below.refl _ _) (Nat.le_refl _) (by simp) ?_;(case hd=>rfl);(case hg=>rfl);(case hr=>first|(go_simp;done)|(go_simp;rfl));(case hp=>exact (aH.one (show Kd.M (Kd.int .i64) _ _ _ t130 [.int .i64 t130] from rfl) (aH.one (show Kd.M (Kd.int .i64) _ _ _ (Int.tmod (wrap64 (t130+1)) a1) [.int .i64 (Int.tmod (wrap64 (t130+1)) a1)] from rfl) (aH.none _ _))));intro apq asS Cr hb bH bI;clear bH bI;(first|rw [← K1.z] at Cr|(simp only [Int.reduceToNat] at Cr;rw [← K1.z] at Cr));replace b9:=iw b9 (Kd.cm Cr) hb;have GH:=k0 (Kd.cA Cr (dD (aK HK.z)));replace aa:=kB aa hb;replace cB:=kB cB hb;replace HK:=k0 (aqB.trans (aK HK.z) (aqB.fO hb g none) (.inl rfl));replace HB:=k0 (dc (aG (aj.ge av.z) HB.z) hb);replace av:=k0 (aj.below (aqy av.z) hb);clear hb Cr;obtain ⟨Pu,Sz,rfl⟩:=Kd.cy GH.z)|((with_reducible refine ars (b:=.append) (xs:=#[.tmp 91,.tmp 95]) rfl ?_);(try (refine lM (by rfl) ?_;dsimp only));at_builtin;refine Kd.asc (Kd.slice 2 (Kd.int .i64)) w.heap.size rfl (.tmp 91) (.tmp 95) 24 29 (.slice none 0 0) 24 rfl Try.underlying24 o_ rfl (by decide) (by omega) u106001 mU Gh [.slice Pu Gh.length Sz] (fun _=>True) (fun k_=>some k_=(.slice Pu Gh.length Sz:Value).ownBlock) rfl rfl ?aP (fun k_ aqJ=>((Kd.aqM (ok':=fun k_=>((fun _=>True)) k_∧some k_ ≠ (u106001:Value).ownBlock) (Kd.aq' (GH.z) (Kd.fH b9.z) (by decide)) (fun k_ hk=>⟨trivial,hk.2⟩))).1 k_ aqJ.symm) ?aF ?aO (Below.refl _ _) ?aS ?aL ?_;(case aP=>exact Kd.lD (Kd.aqM (Kd.oV rfl (Kd.aqM (ok':=fun k_=>((fun _=>True)) k_∧some k_ ≠ (u106001:Value).ownBlock) (Kd.aq' (GH.z) (Kd.fH b9.z) (by decide)) (fun k_ hk=>⟨trivial,hk.2⟩))) (fun _ h_=>h_)));(case aF=>exact (fun _ _=>trivial));(case aO=>exact (aS (Kd.b6 b9.z (fun k_ hk=>⟨trivial,fun e_=>hk.2 e_⟩))));(case aS=>exact (dD (aK HK.z)));(case aL=>have:=aag.out;omega);intro aps OV ho hb hg bg;rw [← QT.z] at ho;replace aa:=k0 (aq2 (aB aa.z) hg (Kd.arl b9.z aa.z (by decide)));replace cB:=k0 (aq2 (aB cB.z) hg (Kd.arl b9.z cB.z (by decide)));replace HB:=k0 (xS (aG (aj.ge av.z) HB.z) HL.z hb);replace av:=k0 (aj.grown (aqy av.z) hg (aj.AA av.z b9.z (by decide)));replace HK:=k0 (aqB.trans (aK HK.z) (aqB.aso hg g) (Kd.zM b9.z));have Qc:=k0 (ho);clear b9 GH;clear ho hb hg bg;obtain ⟨Bj,Cb,rfl⟩:=Kd.dL Qc.z;obtain ⟨_,_,_,_⟩:=aqA cB))
           go_roundg wX
           case measure=>have:=aI.z;have:=sS.out;have:=dR.z;have:=Bp.out;omega
           case rel=>exact ⟨(wrap64 (sD - 1)),(t137),(t138),(JA),(.slice Bj JA.length Cb),rs,H',⟨by have:=aI.z;have:=sS.out;have:=dR.z;have:=Bp.out;omega⟩,⟨aS (Kd.b6 (gS 1 (.slice Bj JA.length Cb) (tS Qc cB)) (fun _ hk=>trivial))⟩,⟨kZ⟩,⟨kZ⟩,⟨aqy av.z⟩,⟨aK HK.z⟩,⟨aG (aj.ge av.z) HB.z⟩⟩
          rw [if_pos c63] at H
          exact absurd H (by simp)
     replace H:=iT H
     replace H:=bS H;obtain ⟨⟨t109,t110,t111⟩,tU,H⟩:=H
     dsimp only at H
     replace H:=bS H;obtain ⟨⟨t112,t113,t114⟩,rQ,H⟩:=H
     dsimp only at H
     replace H:=iE H;obtain ⟨c24,wM,LA,H⟩|⟨wM,LA,H⟩:=H
     case inl =>
      obtain ⟨xo,zK⟩:=nY (([t109,kH]:List Int):List Int)
      replace H:(if q9.length < 5864062014805 then (c_.l0 yB a1 a2 (decide (t106 > 0)) (wrap64 (kH+1)) aJ t113 t114 a1 (q9 ++ [xo])) else (none))=some (r1,r2,r3,r4):=rH zK.z H
      replace H:=iS H;obtain ⟨c37,H⟩:=H
      have aad:=k0 c37
      clear c37
      obtain ⟨Jz,QI⟩:=nY (q9 ++ [xo]:List (List Int))
      replace H:(c_.l0 yB a1 a2 (decide (t106 > 0)) (wrap64 (kH+1)) aJ t113 t114 a1 Jz)=some (r1,r2,r3,r4):=rH QI.z H
      have H':=k0 H
      clear H
      go_wp2_with (first|(refine aqz (f:=49) rfl ?_;refine gC (some 37) Try.func49 #[.pointer (some ⟨g,0,none⟩),.int .i64 kH] ?_;(with_reducible refine (dK.calls g aJ vz vB kH t109 t110 t111 w0 _ ?aq ?au tU.z).mono ?_);(case aq=>exact aqy av.z);(case au=>exact aG (aj.ge av.z) HB.z);rintro e w38 ⟨rfl,hi,hb,hk⟩;refine ⟨_,rfl,?_⟩;replace b9:=k0 (Kd.b6 (Kd.p8 (aj.oZ (show aj w0 _ g aJ vz vB from aqy av.z) (aS b9.z) (by decide)) hk (fun _ h=>h.2)) (fun _ h=>h.1));replace aa:=kK hk aa dS;replace cB:=kK hk cB arB;replace HK:=k0 (aqB.trans (aK HK.z) hk (.inl rfl));replace HB:=k0 (hb);replace av:=k0 (hi))|(refine aqz (f:=49) rfl ?_;refine gC (some 39) Try.func49 #[.pointer (some ⟨g,0,none⟩),.int .i64 2] ?_;(with_reducible refine (dK.calls g aJ t110 t111 2 t112 t113 t114 w0 _ ?aq ?au rQ.z).mono ?_);(case aq=>exact aqy av.z);(case au=>exact aG (aj.ge av.z) HB.z);rintro e qt ⟨rfl,hi,hb,hk⟩;refine ⟨_,rfl,?_⟩;replace b9:=k0 (Kd.b6 (Kd.p8 (aj.oZ (show aj w0 _ g aJ t110 t111 from aqy av.z) (aS b9.z) (by decide)) hk (fun _ h=>h.2)) (fun _ h=>h.1));replace aa:=kK hk aa dS;replace cB:=kK hk cB arB;replace HK:=k0 (aqB.trans (aK HK.z) hk (.inl rfl));replace HB:=k0 (hb);replace av:=k0 (hi);obtain ⟨_,_⟩:=nE oU;obtain ⟨_,_⟩:=nE arB;obtain ⟨_,_,_,_⟩:=aqA cB)|(refine aqI (N:=53) rfl ?_;(try (refine lM (by rfl) ?_;dsimp only));refine Kd.gw (Kd.int .i64) _ 2 ?hg (N:=53) ?hd (xs:=([t109,kH]:List Int)) (inner:=[.int .i64 t109,.int .i64 kH]) (ok:=fun _=>True) (bw:=fun _=>True) ?hr ?hp (fun _ hk=>hk) trivial (Below.refl _ _) (Nat.le_refl _) (by simp) ?_;(case hd=>rfl);(case hg=>rfl);(case hr=>first|(go_simp;done)|(go_simp;rfl));(case hp=>exact (aH.one (show Kd.M (Kd.int .i64) _ _ _ t109 [.int .i64 t109] from rfl) (aH.one (show Kd.M (Kd.int .i64) _ _ _ kH [.int .i64 kH] from rfl) (aH.none _ _))));intro F1 Xe qO hb bH bI;clear bH bI;(first|rw [← zK.z] at qO|(simp only [Int.reduceToNat] at qO;rw [← zK.z] at qO));replace b9:=iw b9 (Kd.cm qO) hb;have arh:=k0 (Kd.cA qO (dD (aK HK.z)));replace aa:=kB aa hb;replace cB:=kB cB hb;replace HK:=k0 (aqB.trans (aK HK.z) (aqB.fO hb g none) (.inl rfl));replace HB:=k0 (dc (aG (aj.ge av.z) HB.z) hb);replace av:=k0 (aj.below (aqy av.z) hb);clear hb qO;obtain ⟨Bh,as5,rfl⟩:=Kd.cy arh.z)|((with_reducible refine ars (b:=.append) (xs:=#[.tmp 50,.tmp 54]) rfl ?_);(try (refine lM (by rfl) ?_;dsimp only));at_builtin;refine Kd.asc (Kd.slice 2 (Kd.int .i64)) w.heap.size rfl (.tmp 50) (.tmp 54) 24 29 (.slice none 0 0) 24 rfl Try.underlying24 o_ rfl (by decide) (by omega) u106001 q9 xo [.slice Bh xo.length as5] (fun _=>True) (fun k_=>some k_=(.slice Bh xo.length as5:Value).ownBlock) rfl rfl ?aP (fun k_ aqJ=>((Kd.aqM (ok':=fun k_=>((fun _=>True)) k_∧some k_ ≠ (u106001:Value).ownBlock) (Kd.aq' (arh.z) (Kd.fH b9.z) (by decide)) (fun k_ hk=>⟨trivial,hk.2⟩))).1 k_ aqJ.symm) ?aF ?aO (Below.refl _ _) ?aS ?aL ?_;(case aP=>exact Kd.lD (Kd.aqM (Kd.oV rfl (Kd.aqM (ok':=fun k_=>((fun _=>True)) k_∧some k_ ≠ (u106001:Value).ownBlock) (Kd.aq' (arh.z) (Kd.fH b9.z) (by decide)) (fun k_ hk=>⟨trivial,hk.2⟩))) (fun _ h_=>h_)));(case aF=>exact (fun _ _=>trivial));(case aO=>exact (aS (Kd.b6 b9.z (fun k_ hk=>⟨trivial,fun e_=>hk.2 e_⟩))));(case aS=>exact (dD (aK HK.z)));(case aL=>have:=aad.out;omega);intro ajv Xg ho hb hg bg;rw [← QI.z] at ho;replace aa:=k0 (aq2 (aB aa.z) hg (Kd.arl b9.z aa.z (by decide)));replace cB:=k0 (aq2 (aB cB.z) hg (Kd.arl b9.z cB.z (by decide)));replace HB:=k0 (xS (aG (aj.ge av.z) HB.z) HL.z hb);replace av:=k0 (aj.grown (aqy av.z) hg (aj.AA av.z b9.z (by decide)));replace HK:=k0 (aqB.trans (aK HK.z) (aqB.aso hg g) (Kd.zM b9.z));have arX:=k0 (ho);clear b9 arh;clear ho hb hg bg;obtain ⟨Pr,Sw,rfl⟩:=Kd.dL arX.z;obtain ⟨_,_,_,_⟩:=aqA cB))
      go_roundg yB
      case measure=>have:=aI.z;have:=sS.out;omega
      case rel=>exact ⟨(wrap64 (kH+1)),(t113),(t114),(Jz),(.slice Pr Jz.length Sw),rs,H',⟨by have:=aI.z;have:=sS.out;omega⟩,⟨aS (Kd.b6 (gS 1 (.slice Pr Jz.length Sw) (tS arX cB)) (fun _ hk=>trivial))⟩,⟨kZ⟩,⟨kZ⟩,⟨aqy av.z⟩,⟨aK HK.z⟩,⟨aG (aj.ge av.z) HB.z⟩⟩
     obtain ⟨sN,asr⟩:=nY (([kH,t109]:List Int):List Int)
     replace H:(if q9.length < 5864062014805 then (c_.l0 yB a1 a2 (decide (t106 > 0)) (wrap64 (kH+1)) aJ t113 t114 a1 (q9 ++ [sN])) else (none))=some (r1,r2,r3,r4):=rH asr.z H
     replace H:=iS H;obtain ⟨c25,H⟩:=H
     have aaa:=k0 c25
     clear c25
     obtain ⟨rj,uj⟩:=nY (q9 ++ [sN]:List (List Int))
     replace H:(c_.l0 yB a1 a2 (decide (t106 > 0)) (wrap64 (kH+1)) aJ t113 t114 a1 rj)=some (r1,r2,r3,r4):=rH uj.z H
     have H':=k0 H
     clear H
     go_wp2_with (first|(refine aqz (f:=49) rfl ?_;refine gC (some 37) Try.func49 #[.pointer (some ⟨g,0,none⟩),.int .i64 kH] ?_;(with_reducible refine (dK.calls g aJ vz vB kH t109 t110 t111 w0 _ ?aq ?au tU.z).mono ?_);(case aq=>exact aqy av.z);(case au=>exact aG (aj.ge av.z) HB.z);rintro e Xb ⟨rfl,hi,hb,hk⟩;refine ⟨_,rfl,?_⟩;replace b9:=k0 (Kd.b6 (Kd.p8 (aj.oZ (show aj w0 _ g aJ vz vB from aqy av.z) (aS b9.z) (by decide)) hk (fun _ h=>h.2)) (fun _ h=>h.1));replace aa:=kK hk aa dS;replace cB:=kK hk cB arB;replace HK:=k0 (aqB.trans (aK HK.z) hk (.inl rfl));replace HB:=k0 (hb);replace av:=k0 (hi))|(refine aqz (f:=49) rfl ?_;refine gC (some 39) Try.func49 #[.pointer (some ⟨g,0,none⟩),.int .i64 2] ?_;(with_reducible refine (dK.calls g aJ t110 t111 2 t112 t113 t114 w0 _ ?aq ?au rQ.z).mono ?_);(case aq=>exact aqy av.z);(case au=>exact aG (aj.ge av.z) HB.z);rintro e rL ⟨rfl,hi,hb,hk⟩;refine ⟨_,rfl,?_⟩;replace b9:=k0 (Kd.b6 (Kd.p8 (aj.oZ (show aj w0 _ g aJ t110 t111 from aqy av.z) (aS b9.z) (by decide)) hk (fun _ h=>h.2)) (fun _ h=>h.1));replace aa:=kK hk aa dS;replace cB:=kK hk cB arB;replace HK:=k0 (aqB.trans (aK HK.z) hk (.inl rfl));replace HB:=k0 (hb);replace av:=k0 (hi);obtain ⟨_,_⟩:=nE oU;obtain ⟨_,_⟩:=nE arB;obtain ⟨_,_,_,_⟩:=aqA cB)|(refine aqI (N:=45) rfl ?_;(try (refine lM (by rfl) ?_;dsimp only));refine Kd.gw (Kd.int .i64) _ 2 ?hg (N:=45) ?hd (xs:=([kH,t109]:List Int)) (inner:=[.int .i64 kH,.int .i64 t109]) (ok:=fun _=>True) (bw:=fun _=>True) ?hr ?hp (fun _ hk=>hk) trivial (Below.refl _ _) (Nat.le_refl _) (by simp) ?_;(case hd=>rfl);(case hg=>rfl);(case hr=>first|(go_simp;done)|(go_simp;rfl));(case hp=>exact (aH.one (show Kd.M (Kd.int .i64) _ _ _ kH [.int .i64 kH] from rfl) (aH.one (show Kd.M (Kd.int .i64) _ _ _ t109 [.int .i64 t109] from rfl) (aH.none _ _))));intro apf Je jz hb bH bI;clear bH bI;(first|rw [← asr.z] at jz|(simp only [Int.reduceToNat] at jz;rw [← asr.z] at jz));replace b9:=iw b9 (Kd.cm jz) hb;have GB:=k0 (Kd.cA jz (dD (aK HK.z)));replace aa:=kB aa hb;replace cB:=kB cB hb;replace HK:=k0 (aqB.trans (aK HK.z) (aqB.fO hb g none) (.inl rfl));replace HB:=k0 (dc (aG (aj.ge av.z) HB.z) hb);replace av:=k0 (aj.below (aqy av.z) hb);clear hb jz;obtain ⟨xx,x_,rfl⟩:=Kd.cy GB.z)|((with_reducible refine ars (b:=.append) (xs:=#[.tmp 42,.tmp 46]) rfl ?_);(try (refine lM (by rfl) ?_;dsimp only));at_builtin;refine Kd.asc (Kd.slice 2 (Kd.int .i64)) w.heap.size rfl (.tmp 42) (.tmp 46) 24 29 (.slice none 0 0) 24 rfl Try.underlying24 o_ rfl (by decide) (by omega) u106001 q9 sN [.slice xx sN.length x_] (fun _=>True) (fun k_=>some k_=(.slice xx sN.length x_:Value).ownBlock) rfl rfl ?aP (fun k_ aqJ=>((Kd.aqM (ok':=fun k_=>((fun _=>True)) k_∧some k_ ≠ (u106001:Value).ownBlock) (Kd.aq' (GB.z) (Kd.fH b9.z) (by decide)) (fun k_ hk=>⟨trivial,hk.2⟩))).1 k_ aqJ.symm) ?aF ?aO (Below.refl _ _) ?aS ?aL ?_;(case aP=>exact Kd.lD (Kd.aqM (Kd.oV rfl (Kd.aqM (ok':=fun k_=>((fun _=>True)) k_∧some k_ ≠ (u106001:Value).ownBlock) (Kd.aq' (GB.z) (Kd.fH b9.z) (by decide)) (fun k_ hk=>⟨trivial,hk.2⟩))) (fun _ h_=>h_)));(case aF=>exact (fun _ _=>trivial));(case aO=>exact (aS (Kd.b6 b9.z (fun k_ hk=>⟨trivial,fun e_=>hk.2 e_⟩))));(case aS=>exact (dD (aK HK.z)));(case aL=>have:=aaa.out;omega);intro aju zc ho hb hg bg;rw [← uj.z] at ho;replace aa:=k0 (aq2 (aB aa.z) hg (Kd.arl b9.z aa.z (by decide)));replace cB:=k0 (aq2 (aB cB.z) hg (Kd.arl b9.z cB.z (by decide)));replace HB:=k0 (xS (aG (aj.ge av.z) HB.z) HL.z hb);replace av:=k0 (aj.grown (aqy av.z) hg (aj.AA av.z b9.z (by decide)));replace HK:=k0 (aqB.trans (aK HK.z) (aqB.aso hg g) (Kd.zM b9.z));have GC:=k0 (ho);clear b9 GB;clear ho hb hg bg;obtain ⟨xy,ya,rfl⟩:=Kd.dL GC.z;obtain ⟨_,_,_,_⟩:=aqA cB))
     go_roundg yB
     case measure=>have:=aI.z;have:=sS.out;omega
     case rel=>exact ⟨(wrap64 (kH+1)),(t113),(t114),(rj),(.slice xy rj.length ya),rs,H',⟨by have:=aI.z;have:=sS.out;omega⟩,⟨aS (Kd.b6 (gS 1 (.slice xy rj.length ya) (tS GC cB)) (fun _ hk=>trivial))⟩,⟨kZ⟩,⟨kZ⟩,⟨aqy av.z⟩,⟨aK HK.z⟩,⟨aG (aj.ge av.z) HB.z⟩⟩
/-! ### F97: function 97 -/
def zy.f (k:Nat) (aJ:List Int) (bQ:Int) (bT:Int):Option (Int × (List (List Int)) × Int × Int):=(dK.f aJ bQ bT 4).bind fun cN=>(if cN.1=0 then ((zo.f).bind fun t105=>((dK.f aJ cN.2.1 cN.2.2 (t105.length:Int)).bind fun mG=>(if 0≤mG.1 then (if mG.1 < (t105.length:Int) then ((rT.f k (gy ByteArray.empty t105 mG.1)).bind fun qa=>(some (qa.1,qa.2.1,mG.2.1,mG.2.2))) else (none)) else (none)))) else ((dK.f aJ cN.2.1 cN.2.2 8).bind fun BU=>((jo.f aJ BU.2.1 BU.2.2 (([1,2,3,3,4,4,5,6,wrap64 (1+BU.1)]:List Int))).bind fun zT=>((jo.f aJ zT.2.1 zT.2.2 (([2,4,6,6,8,10]:List Int))).bind fun nD=>((c_.f k aJ nD.2.1 nD.2.2 zT.1 nD.1).bind fun lH=>(some (lH.1,lH.2.1,lH.2.2.1,lH.2.2.2)))))))
theorem zy.calls (k : Nat) (g : Nat) (aJ : List Int) (bQ : Int) (bT : Int) (r1 : Int) (r2 : List (List Int)) (r3 : Int) (r4 : Int) (w0 w : World) (hI : aj w0 w g aJ bQ bT) (hB : Below w0.heap.size w0 w) (h : zy.f k aJ bQ bT = some (r1, r2, r3, r4)) :
  Calls Try.prog 97 #[.pointer (some ⟨g,0,none⟩)] w fun e w'=>∃ fK:Value,e=.returned (.agg #[.int .i64 r1,fK])∧Kd.S (Kd.slice 2 (Kd.int .i64)) 29 w' w.heap.size (fun _=>True) fK r2∧aj w0 w' g aJ r3 r4∧Below w0.heap.size w0 w'∧aqB w w' g none:=by
 have eE:=Try.underlying26
 have av:=k0 hI
 have HK:=k0 (aqB.refl w g none)
 have HL:=k0 hB.size
 clear hI
 have jv:=k0 hB.size
 have HB:=k0 hB
 clear hB
 unfold zy.f at h
 have H:=h
 clear h
 replace H:=bS H;obtain ⟨⟨t102,t103,t104⟩,A2,H⟩:=H
 dsimp only at H
 replace H:=iE H;obtain ⟨c3,ia,qb,H⟩|⟨ia,qb,H⟩:=H
 case inl =>
  replace H:=bS H;obtain ⟨⟨t118,t119,t120⟩,tU,H⟩:=H
  dsimp only at H
  obtain ⟨xo,zK⟩:=nY (([1,2,3,3,4,4,5,6,wrap64 (1+t118)]:List Int):List Int)
  replace H:((jo.f aJ t119 t120 xo).bind fun zT=>((jo.f aJ zT.2.1 zT.2.2 (([2,4,6,6,8,10]:List Int))).bind fun nD=>((c_.f k aJ nD.2.1 nD.2.2 zT.1 nD.1).bind fun lH=>(some (lH.1,lH.2.1,lH.2.2.1,lH.2.2.2)))))=some (r1,r2,r3,r4):=rH zK.z H
  replace H:=bS H;obtain ⟨⟨t124,t125,t126⟩,rQ,H⟩:=H
  dsimp only at H
  obtain ⟨O4,KY⟩:=nY (([2,4,6,6,8,10]:List Int):List Int)
  replace H:((jo.f aJ t125 t126 O4).bind fun nD=>((c_.f k aJ nD.2.1 nD.2.2 t124 nD.1).bind fun lH=>(some (lH.1,lH.2.1,lH.2.2.1,lH.2.2.2))))=some (r1,r2,r3,r4):=rH KY.z H
  replace H:=bS H;obtain ⟨⟨t130,t131,t132⟩,Bf,H⟩:=H
  dsimp only at H
  replace H:=bS H;obtain ⟨⟨t133,t134,t137,t138⟩,X1,H⟩:=H
  dsimp only at H
  simp only [Option.some.injEq,Prod.mk.injEq] at H
  obtain ⟨rfl,rfl,rfl,rfl⟩:=H
  go_enter Try.func97,Try.ntmps97
  go_wp2_with (first|(refine aqI (N:=2) rfl ?_;refine fu 2 #[.int .i64 0,.slice none 0 0] 26 ?_;intro aA hg Xb bq hb;replace HB:=k0 (dc (aG (aj.ge av.z) HB.z) hb);have aa:=k0 (bq);have aqF:=gW hg (dD (aK HK.z));have aqR:=k0 (Nat.le_trans jv.z aqF.z);replace HK:=k0 (aqB.trans (aK HK.z) (aqB.fO hb g none) (.inl rfl));have wF:=k0 ((by rw [hg];exact Nat.ne_of_lt (aj.lt (show aj w0 _ g aJ bQ bT from aqy av.z)):g ≠ aA));have dS:=k0 ((by rw [hg];exact Nat.ne_of_gt (aj.lt (show aj w0 _ g aJ bQ bT from aqy av.z)):aA ≠ g));replace av:=k0 (aj.below (aqy av.z) hb);clear hb bq hg)|(refine aqz (f:=49) rfl ?_;refine gC (some 7) Try.func49 #[.pointer (some ⟨g,0,none⟩),.int .i64 4] ?_;(with_reducible refine (dK.calls g aJ bQ bT 4 t102 t103 t104 w0 _ ?aq ?au A2.z).mono ?_);(case aq=>exact aqy av.z);(case au=>exact aG (aj.ge av.z) HB.z);rintro e rL ⟨rfl,hi,hb,hk⟩;refine ⟨_,rfl,?_⟩;replace aa:=kK hk aa dS;replace HK:=k0 (aqB.trans (aK HK.z) hk (.inl rfl));replace HB:=k0 (hb);replace av:=k0 (hi))|(refine aqz (f:=49) rfl ?_;refine gC (some 25) Try.func49 #[.pointer (some ⟨g,0,none⟩),.int .i64 8] ?_;(with_reducible refine (dK.calls g aJ t103 t104 8 t118 t119 t120 w0 _ ?aq ?au tU.z).mono ?_);(case aq=>exact aqy av.z);(case au=>exact aG (aj.ge av.z) HB.z);rintro e as9 ⟨rfl,hi,hb,hk⟩;refine ⟨_,rfl,?_⟩;replace aa:=kK hk aa dS;replace HK:=k0 (aqB.trans (aK HK.z) hk (.inl rfl));replace HB:=k0 (hb);replace av:=k0 (hi))|(refine aqI (N:=27) rfl ?_;refine Kd.gw (Kd.int .i64) _ 2 ?hg (N:=27) ?hd (xs:=([1,2,3,3,4,4,5,6,wrap64 (1+t118)]:List Int)) (inner:=[.int .i64 1,.int .i64 2,.int .i64 3,.int .i64 3,.int .i64 4,.int .i64 4,.int .i64 5,.int .i64 6,.int .i64 (wrap64 (1+t118))]) (ok:=fun _=>True) (bw:=fun _=>True) ?hr ?hp (fun _ hk=>hk) trivial (Below.refl _ _) (Nat.le_refl _) (by simp) ?_;(case hd=>rfl);(case hg=>rfl);(case hr=>first|(go_simp;done)|(go_simp;rfl));(case hp=>exact (aH.one (show Kd.M (Kd.int .i64) _ _ _ 1 [.int .i64 1] from rfl) (aH.one (show Kd.M (Kd.int .i64) _ _ _ 2 [.int .i64 2] from rfl) (aH.one (show Kd.M (Kd.int .i64) _ _ _ 3 [.int .i64 3] from rfl) (aH.one (show Kd.M (Kd.int .i64) _ _ _ 3 [.int .i64 3] from rfl) (aH.one (show Kd.M (Kd.int .i64) _ _ _ 4 [.int .i64 4] from rfl) (aH.one (show Kd.M (Kd.int .i64) _ _ _ 4 [.int .i64 4] from rfl) (aH.one (show Kd.M (Kd.int .i64) _ _ _ 5 [.int .i64 5] from rfl) (aH.one (show Kd.M (Kd.int .i64) _ _ _ 6 [.int .i64 6] from rfl) (aH.one (show Kd.M (Kd.int .i64) _ _ _ (wrap64 (1+t118)) [.int .i64 (wrap64 (1+t118))] from rfl) (aH.none _ _)))))))))));intro F1 zb EX hb bH bI;clear bH bI;(first|rw [← zK.z] at EX|(simp only [Int.reduceToNat] at EX;rw [← zK.z] at EX));have arh:=k0 (Kd.cA EX (dD (aK HK.z)));replace aa:=kB aa hb;replace HK:=k0 (aqB.trans (aK HK.z) (aqB.fO hb g none) (.inl rfl));replace HB:=k0 (dc (aG (aj.ge av.z) HB.z) hb);replace av:=k0 (aj.below (aqy av.z) hb);clear hb EX;obtain ⟨zm,vR,rfl⟩:=Kd.cy arh.z)|(refine aqz (f:=51) rfl ?_;refine gC (some 28) Try.func51 #[.pointer (some ⟨g,0,none⟩),.slice zm xo.length vR] ?_;(with_reducible refine (jo.calls g aJ t119 t120 _ _ xo t124 t125 t126 w0 _ ?aq ?au ?cr ?dw ?pF rQ.z).mono ?_);(case aq=>exact aqy av.z);(case au=>exact aG (aj.ge av.z) HB.z);(case cr=>exact aC ((Kd.aqP arh.z).2.2));(case dw=>exact (Kd.aqP arh.z).2.1);(case pF=>exact z4 (aj.tE av.z arh.z (by decide)));rintro e as_ ⟨rfl,hi,hb,hk⟩;refine ⟨_,rfl,?_⟩;replace aa:=kK hk aa dS;replace arh:=k0 (Kd.aqM (Kd.uo (aj.apart (show aj w0 _ g aJ t119 t120 from aqy av.z) (aR arh.z) (by decide)) hk (fun _ h=>h.2)) (fun _ h=>h.1));replace HK:=k0 (aqB.trans (aK HK.z) hk (.inl rfl));replace HB:=k0 (hb);replace av:=k0 (hi))|(refine aqI (N:=30) rfl ?_;refine Kd.gw (Kd.int .i64) _ 2 ?hg (N:=30) ?hd (xs:=([2,4,6,6,8,10]:List Int)) (inner:=[.int .i64 2,.int .i64 4,.int .i64 6,.int .i64 6,.int .i64 8,.int .i64 10]) (ok:=fun _=>True) (bw:=fun _=>True) ?hr ?hp (fun _ hk=>hk) trivial (Below.refl _ _) (Nat.le_refl _) (by simp) ?_;(case hd=>rfl);(case hg=>rfl);(case hr=>first|(go_simp;done)|(go_simp;rfl));(case hp=>exact (aH.one (show Kd.M (Kd.int .i64) _ _ _ 2 [.int .i64 2] from rfl) (aH.one (show Kd.M (Kd.int .i64) _ _ _ 4 [.int .i64 4] from rfl) (aH.one (show Kd.M (Kd.int .i64) _ _ _ 6 [.int .i64 6] from rfl) (aH.one (show Kd.M (Kd.int .i64) _ _ _ 6 [.int .i64 6] from rfl) (aH.one (show Kd.M (Kd.int .i64) _ _ _ 8 [.int .i64 8] from rfl) (aH.one (show Kd.M (Kd.int .i64) _ _ _ 10 [.int .i64 10] from rfl) (aH.none _ _))))))));intro api zc Co hb bH bI;clear bH bI;(first|rw [← KY.z] at Co|(simp only [Int.reduceToNat] at Co;rw [← KY.z] at Co));have wA:=k0 (Kd.cA (Kd.kS Co (Kd.eZ (aR arh.z))) (dD (aK HK.z)));replace arh:=l_ arh (Kd.cm Co) hb;replace aa:=kB aa hb;replace HK:=k0 (aqB.trans (aK HK.z) (aqB.fO hb g none) (.inl rfl));replace HB:=k0 (dc (aG (aj.ge av.z) HB.z) hb);replace av:=k0 (aj.below (aqy av.z) hb);clear hb Co;obtain ⟨xy,ya,rfl⟩:=Kd.cy wA.z)|(refine aqz (f:=51) rfl ?_;refine gC (some 31) Try.func51 #[.pointer (some ⟨g,0,none⟩),.slice xy O4.length ya] ?_;(with_reducible refine (jo.calls g aJ t125 t126 _ _ O4 t130 t131 t132 w0 _ ?aq ?au ?cr ?dw ?pF Bf.z).mono ?_);(case aq=>exact aqy av.z);(case au=>exact aG (aj.ge av.z) HB.z);(case cr=>exact aC ((Kd.aqP wA.z).2.2));(case dw=>exact (Kd.aqP wA.z).2.1);(case pF=>exact z4 (aj.tE av.z wA.z (by decide)));rintro e Xc ⟨rfl,hi,hb,hk⟩;refine ⟨_,rfl,?_⟩;replace aa:=kK hk aa dS;replace arh:=k0 (Kd.aqM (Kd.uo (aj.apart (show aj w0 _ g aJ t125 t126 from aqy av.z) (aR arh.z) (by decide)) hk (fun _ h=>h.2)) (fun _ h=>h.1));replace wA:=k0 (Kd.aqM (Kd.uo (aj.apart (show aj w0 _ g aJ t125 t126 from aqy av.z) (aR wA.z) (by decide)) hk (fun _ h=>h.2)) (fun _ h=>h.1));replace HK:=k0 (aqB.trans (aK HK.z) hk (.inl rfl));replace HB:=k0 (hb);replace av:=k0 (hi))|(refine aqz (f:=129) rfl ?_;refine gC (some 32) Try.func129 #[.pointer (some ⟨g,0,none⟩),.int .i64 t124,.int .i64 t130] ?_;(with_reducible refine (c_.calls k g aJ t131 t132 t124 t130 t133 t134 t137 t138 w0 _ ?aq ?au X1.z).mono ?_);(case aq=>exact aqy av.z);(case au=>exact aG (aj.ge av.z) HB.z);rintro e OT ⟨apn,rfl,aD,hi,hb,hk⟩;refine ⟨_,rfl,?_⟩;replace aa:=kK hk aa dS;have P_:=k0 (Kd.fT (Kd.oX (Kd.oX aD (Kd.eZ (aR arh.z))) (Kd.eZ (aR wA.z))) (dD (aK HK.z)));replace arh:=k0 (Kd.aqM (Kd.uo (aj.apart (show aj w0 _ g aJ t131 t132 from aqy av.z) (aR arh.z) (by decide)) hk (fun _ h=>h.2)) (fun _ h=>h.1));replace wA:=k0 (Kd.aqM (Kd.uo (aj.apart (show aj w0 _ g aJ t131 t132 from aqy av.z) (aR wA.z) (by decide)) hk (fun _ h=>h.2)) (fun _ h=>h.1));replace HK:=k0 (aqB.trans (aK HK.z) hk (.inl rfl));replace HB:=k0 (hb);replace av:=k0 (hi);obtain ⟨_,_⟩:=nE dS;obtain ⟨_,_,_,_⟩:=aqA aa;obtain ⟨Pp,Su,rfl⟩:=Kd.dL P_.z))
  refine bodyPost_ret (results_cell_row rfl _ _ aA 26 #[.int .i64 t133,.slice Pp t134.length Su] (0,0) _ rfl kZ Try.underlying26 rfl (by kernel_rfl)) rfl ?_
  exact ⟨_,eR,aS (Kd.b6 (gS 1 (.slice Pp t134.length Su) (gS 0 (.int .i64 t133) (tS P_ aa))) (fun _ hk=>trivial)),aqy av.z,aG (aj.ge av.z) HB.z,aK HK.z⟩
 replace H:=bS H;obtain ⟨t105,A4,H⟩:=H
 replace H:=bS H;obtain ⟨⟨t108,t109,t110⟩,A5,H⟩:=H
 dsimp only at H
 replace H:=iS H;obtain ⟨c6,H⟩:=H
 have fN:=decide_eq_true c6
 clear c6
 replace H:=iS H;obtain ⟨c7,H⟩:=H
 have l8:=decide_eq_true c7
 clear c7
 replace H:=bS H;obtain ⟨⟨t112,t113,t116⟩,A8,H⟩:=H
 dsimp only at H
 simp only [Option.some.injEq,Prod.mk.injEq] at H
 obtain ⟨rfl,rfl,rfl,rfl⟩:=H
 go_enter Try.func97,Try.ntmps97
 go_wp2_with (first|(refine aqI (N:=2) rfl ?_;refine fu 2 #[.int .i64 0,.slice none 0 0] 26 ?_;intro aA hg w9 bq hb;replace HB:=k0 (dc (aG (aj.ge av.z) HB.z) hb);have aa:=k0 (bq);have aqF:=gW hg (dD (aK HK.z));have aqR:=k0 (Nat.le_trans jv.z aqF.z);replace HK:=k0 (aqB.trans (aK HK.z) (aqB.fO hb g none) (.inl rfl));have wF:=k0 ((by rw [hg];exact Nat.ne_of_lt (aj.lt (show aj w0 _ g aJ bQ bT from aqy av.z)):g ≠ aA));have dS:=k0 ((by rw [hg];exact Nat.ne_of_gt (aj.lt (show aj w0 _ g aJ bQ bT from aqy av.z)):aA ≠ g));replace av:=k0 (aj.below (aqy av.z) hb);clear hb bq hg)|(refine aqz (f:=49) rfl ?_;refine gC (some 7) Try.func49 #[.pointer (some ⟨g,0,none⟩),.int .i64 4] ?_;(with_reducible refine (dK.calls g aJ bQ bT 4 t102 t103 t104 w0 _ ?aq ?au A2.z).mono ?_);(case aq=>exact aqy av.z);(case au=>exact aG (aj.ge av.z) HB.z);rintro e jh ⟨rfl,hi,hb,hk⟩;refine ⟨_,rfl,?_⟩;replace aa:=kK hk aa dS;replace HK:=k0 (aqB.trans (aK HK.z) hk (.inl rfl));replace HB:=k0 (hb);replace av:=k0 (hi))|(refine aqz (f:=127) rfl ?_;refine gC (some 9) Try.func127 #[] ?_;(with_reducible refine (zo.calls  t105 _ A4.z).mono ?_);rintro e y9 ⟨CS,rfl,aD,hb⟩;refine ⟨_,rfl,?_⟩;have oP:=k0 (Kd.cA aD (dD (aK HK.z)));replace aa:=kB aa hb;replace HK:=k0 (aqB.trans (aK HK.z) (aqB.fO hb g none) (.inl rfl));replace HB:=k0 (dc (aG (aj.ge av.z) HB.z) hb);replace av:=k0 (aj.below (aqy av.z) hb);obtain ⟨zk,asE,rfl⟩:=Kd.cy oP.z)|(refine aqz (f:=49) rfl ?_;refine gC (some 15) Try.func49 #[.pointer (some ⟨g,0,none⟩),.int .i64 (t105.length:Int)] ?_;(with_reducible refine (dK.calls g aJ t103 t104 (t105.length:Int) t108 t109 t110 w0 _ ?aq ?au A5.z).mono ?_);(case aq=>exact aqy av.z);(case au=>exact aG (aj.ge av.z) HB.z);rintro e oC ⟨rfl,hi,hb,hk⟩;refine ⟨_,rfl,?_⟩;replace aa:=kK hk aa dS;replace oP:=k0 (Kd.aqM (Kd.uo (aj.apart (show aj w0 _ g aJ t103 t104 from aqy av.z) (aR oP.z) (by decide)) hk (fun _ h=>h.2)) (fun _ h=>h.1));replace HK:=k0 (aqB.trans (aK HK.z) hk (.inl rfl));replace HB:=k0 (hb);replace av:=k0 (hi);obtain ⟨mS,kA⟩:=iN t108 (t105.length:Int);obtain ⟨uq,e111,tu⟩:=Kd.xQ (Kd.aqP oP.z).2.2 t108 mS kA;cases e111;replace mS:=eT mS;replace kA:=eT kA)|(refine aqz (f:=128) rfl ?_;refine gC (some 18) Try.func128 #[.string (gy ByteArray.empty t105 t108)] ?_;(with_reducible refine (rT.calls k (gy ByteArray.empty t105 t108) t112 t113 t116 _ A8.z).mono ?_);rintro e vv ⟨ajs,rfl,aD,hb⟩;refine ⟨_,rfl,?_⟩;replace oP:=eC oP hb;have pZ:=k0 (Kd.fT aD (dD (aK HK.z)));replace aa:=kB aa hb;replace HK:=k0 (aqB.trans (aK HK.z) (aqB.fO hb g none) (.inl rfl));replace HB:=k0 (dc (aG (aj.ge av.z) HB.z) hb);replace av:=k0 (aj.below (aqy av.z) hb))|(refine aqI (N:=4) rfl ?_;refine fu 4 #[.int .i64 0,.slice none 0 0] 26 ?_;intro HJ hg pH bq hb;replace oP:=eC oP hb;replace pZ:=iG pZ hb;replace HB:=k0 (dc (aG (aj.ge av.z) HB.z) hb);have Py:=k0 (bq);have Y8:=gW hg (dD (aK HK.z));have akT:=k0 (Nat.le_trans jv.z Y8.z);replace HK:=k0 (aqB.trans (aK HK.z) (aqB.fO hb g none) (.inl rfl));have aak:=nL hg aa;have aau:=nG aak;replace aa:=kB aa hb;have al4:=k0 ((by rw [hg];exact Nat.ne_of_lt (aj.lt (show aj w0 _ g aJ t109 t110 from aqy av.z)):g ≠ HJ));have aat:=k0 ((by rw [hg];exact Nat.ne_of_gt (aj.lt (show aj w0 _ g aJ t109 t110 from aqy av.z)):HJ ≠ g));replace av:=k0 (aj.below (aqy av.z) hb);clear hb bq hg;obtain ⟨_,_⟩:=nE aau;obtain ⟨_,_⟩:=nE aat;obtain ⟨_,_,_,_⟩:=aqA Py;obtain ⟨zl,asF,rfl⟩:=Kd.dL pZ.z;obtain ⟨_,_⟩:=nE dS;obtain ⟨_,_,_,_⟩:=aqA aa))
 refine bodyPost_ret (results_cell_row rfl _ _ aA 26 #[.int .i64 t112,.slice zl t113.length asF] (0,0) _ rfl kZ Try.underlying26 rfl (by kernel_rfl)) rfl ?_
 exact ⟨_,eR,aS (Kd.b6 (Kd.oW (p:=⟨aA,1,none⟩) (Kd.oW (p:=⟨aA,0,none⟩) (Kd.oW (p:=⟨HJ,1,none⟩) (Kd.oW (p:=⟨HJ,0,none⟩) (Kd.xO (tS pZ Py) aa.z (by decide)) (fun _ hk=>hk.1.2) (.int .i64 t112)) (fun _ hk=>hk.1.2) (.slice zl t113.length asF)) (fun _ hk=>hk.2) (.int .i64 t112)) (fun _ hk=>hk.2) (.slice zl t113.length asF)) (fun _ hk=>trivial)),aqy av.z,aG (aj.ge av.z) HB.z,aK HK.z⟩
/-! ### F48: function 48 -/
def ng.f (k:Nat) (aJ:List Int) (bQ:Int) (bT:Int):Option (Int × (List (List Int)) × Int × Int):=(zy.f k aJ bQ bT).bind fun cN=>((js.f k aJ cN.2.2.1 cN.2.2.2 cN.1 cN.2.1).bind fun mG=>(some (mG.1,mG.2.1,mG.2.2.1,mG.2.2.2)))
theorem ng.calls (k : Nat) (g : Nat) (aJ : List Int) (bQ : Int) (bT : Int) (r1 : Int) (r2 : List (List Int)) (r3 : Int) (r4 : Int) (w0 w : World) (hI : aj w0 w g aJ bQ bT) (hB : Below w0.heap.size w0 w) (h : ng.f k aJ bQ bT = some (r1, r2, r3, r4)) :
  Calls Try.prog 48 #[.pointer (some ⟨g,0,none⟩)] w fun e w'=>∃ fK:Value,e=.returned (.agg #[.int .i64 r1,fK])∧Kd.V (Kd.slice 2 (Kd.int .i64)) 29 w' w.heap.size (fun k_=>(w.heap.size≤k_)) fK r2∧aj w0 w' g aJ r3 r4∧Below w0.heap.size w0 w'∧aqB w w' g none:=by
 have eE:=Try.underlying26
 have av:=k0 hI
 have HK:=k0 (aqB.refl w g none)
 have HL:=k0 hB.size
 clear hI
 have jv:=k0 hB.size
 have HB:=k0 hB
 clear hB
 unfold ng.f at h
 have H:=h
 clear h
 replace H:=bS H;obtain ⟨⟨t102,t103,t106,t107⟩,A2,H⟩:=H
 dsimp only at H
 replace H:=bS H;obtain ⟨⟨t108,t109,t112,t113⟩,A3,H⟩:=H
 dsimp only at H
 simp only [Option.some.injEq,Prod.mk.injEq] at H
 obtain ⟨rfl,rfl,rfl,rfl⟩:=H
 go_enter Try.func48,Try.ntmps48
 go_wp2_with (first|(refine aqI (N:=2) rfl ?_;refine fu 2 #[.int .i64 0,.slice none 0 0] 26 ?_;intro aA hg w4 bq hb;replace HB:=k0 (dc (aG (aj.ge av.z) HB.z) hb);have aa:=k0 (bq);have aqF:=gW hg (dD (aK HK.z));have aqR:=k0 (Nat.le_trans jv.z aqF.z);replace HK:=k0 (aqB.trans (aK HK.z) (aqB.fO hb g none) (.inl rfl));have wF:=k0 ((by rw [hg];exact Nat.ne_of_lt (aj.lt (show aj w0 _ g aJ bQ bT from aqy av.z)):g ≠ aA));have dS:=k0 ((by rw [hg];exact Nat.ne_of_gt (aj.lt (show aj w0 _ g aJ bQ bT from aqy av.z)):aA ≠ g));replace av:=k0 (aj.below (aqy av.z) hb);clear hb bq hg)|(refine aqz (f:=97) rfl ?_;refine gC (some 5) Try.func97 #[.pointer (some ⟨g,0,none⟩)] ?_;(with_reducible refine (zy.calls k g aJ bQ bT t102 t103 t106 t107 w0 _ ?aq ?au A2.z).mono ?_);(case aq=>exact aqy av.z);(case au=>exact aG (aj.ge av.z) HB.z);rintro e w5 ⟨mT,rfl,aD,hi,hb,hk⟩;refine ⟨_,rfl,?_⟩;replace aa:=kK hk aa dS;have b8:=k0 (Kd.fT (Kd.DG (M:=fun k_=>(w.heap.size≤k_)) aD (dD (aK HK.z)) (fun k_ h_=>h_)) (dD (aK HK.z)));replace HK:=k0 (aqB.trans (aK HK.z) hk (.inl rfl));replace HB:=k0 (hb);replace av:=k0 (hi);obtain ⟨Yj,co6,rfl⟩:=Kd.dL b8.z)|(refine aqz (f:=96) rfl ?_;refine gC (some 6) Try.func96 #[.pointer (some ⟨g,0,none⟩),.agg #[.int .i64 t102,.slice Yj t103.length co6]] ?_;(with_reducible refine (js.calls k g aJ t106 t107 t102 (fun k_=>((((w.heap.size≤k_)∧True)∧k_ ≠ aA)∧k_ ≠ g)) _ _ t103 t108 t109 t112 t113 w0 _ ?aq ?au ?cr A3.z).mono ?_);(case aq=>exact aqy av.z);(case au=>exact aG (aj.ge av.z) HB.z);(case cr=>exact Kd.aZ (Kd.DF (aj.oZ av.z (Kd.xO (b8.z) aa.z (by decide)) (by decide))) (fun k_ aqJ=>⟨aqJ,aqJ.2⟩));rintro e w7 ⟨q4,rfl,aD,hi,hb,hk⟩;refine ⟨_,rfl,?_⟩;replace b8:=k0 (Kd.b6 (Kd.p8 (aj.oZ (show aj w0 _ g aJ t106 t107 from aqy av.z) (aS b8.z) (by decide)) hk (fun _ h=>h.2)) (fun _ h=>h.1));have ua:=k0 (Kd.p_ (Kd.aZ (ok':=fun k_=>(w.heap.size≤k_)∧k_ ≠ aA∧k_ ≠ g) aD (fun k_ aqJ=>⟨Or.elim aqJ (fun hs_=>hs_.1.1.1) (fun EV=>(Nat.le_trans (dD (aK HK.z)) EV)),Or.elim aqJ (fun hs_=>hs_.1.2) (fun EV=>(Kd.ig (aB aa.z) k_ EV)),Or.elim aqJ (fun hs_=>hs_.2) (fun EV=>(aj.fresh (aqy av.z) k_ EV))⟩)) (dD (aK HK.z)));replace aa:=kK hk aa dS;replace HK:=k0 (aqB.trans (aK HK.z) hk (.inl rfl));replace HB:=k0 (hb);replace av:=k0 (hi);obtain ⟨_,_⟩:=nE dS;obtain ⟨_,_,_,_⟩:=aqA aa;obtain ⟨xu,asD,rfl⟩:=Kd.arO ua.z))
 refine bodyPost_ret (results_cell_row rfl _ _ aA 26 #[.int .i64 t108,.slice xu t109.length asD] (0,0) _ rfl kZ Try.underlying26 rfl (by kernel_rfl)) rfl ?_
 exact ⟨_,eR,aV (Kd.aZ (Kd.je (p:=⟨aA,1,none⟩) (Kd.je (p:=⟨aA,0,none⟩) (Kd.aZ ua.z (fun k_ hk=>(⟨hk,hk.2.1⟩:_∧k_ ≠ aA))) (fun _ hk=>hk.2) (.int .i64 t108)) (fun _ hk=>hk.2) (.slice xu t109.length asD)) (fun _ hk=>hk.1.1)),aqy av.z,aG (aj.ge av.z) HB.z,aK HK.z⟩
/-! ### F50: function 50 -/
def rU.f (aJ:List Int) (bQ:Int) (bT:Int):Option (Int × Int × Int):=(dK.f aJ bQ bT 20).bind fun o4=>(if o4.1=0 then ((jo.f aJ o4.2.1 o4.2.2 (([0,1,4,91,103]:List Int))).bind fun jx=>(some (jx.1,jx.2.1,jx.2.2))) else ((jo.f aJ o4.2.1 o4.2.2 (([2,3,5,7,11,13,31,101]:List Int))).bind fun ari=>(some (ari.1,ari.2.1,ari.2.2))))
theorem rU.calls (g : Nat) (aJ : List Int) (bQ : Int) (bT : Int) (r1 : Int) (r2 : Int) (r3 : Int) (w0 w : World) (hI : aj w0 w g aJ bQ bT) (hB : Below w0.heap.size w0 w) (h : rU.f aJ bQ bT = some (r1, r2, r3)) :
  Calls Try.prog 50 #[.pointer (some ⟨g,0,none⟩)] w fun e w'=>e=.returned (.int .i64 r1)∧aj w0 w' g aJ r2 r3∧Below w0.heap.size w0 w'∧aqB w w' g none:=by
 have av:=k0 hI
 have HK:=k0 (aqB.refl w g none)
 have HL:=k0 hB.size
 clear hI
 have jv:=k0 hB.size
 have HB:=k0 hB
 clear hB
 unfold rU.f at h
 have H:=h
 clear h
 replace H:=bS H;obtain ⟨⟨t101,t102,t103⟩,A2,H⟩:=H
 dsimp only at H
 replace H:=iE H;obtain ⟨c3,ia,qb,H⟩|⟨ia,qb,H⟩:=H
 case inl =>
  obtain ⟨qy,qD⟩:=nY (([2,3,5,7,11,13,31,101]:List Int):List Int)
  replace H:((jo.f aJ t102 t103 qy).bind fun ari=>(some (ari.1,ari.2.1,ari.2.2)))=some (r1,r2,r3):=rH qD.z H
  replace H:=bS H;obtain ⟨⟨t113,t114,t115⟩,Gj,H⟩:=H
  dsimp only at H
  simp only [Option.some.injEq,Prod.mk.injEq] at H
  obtain ⟨rfl,rfl,rfl⟩:=H
  go_enter Try.func50,Try.ntmps50
  go_wp2_with (first|(refine aqz (f:=49) rfl ?_;refine gC (some 4) Try.func49 #[.pointer (some ⟨g,0,none⟩),.int .i64 20] ?_;(with_reducible refine (dK.calls g aJ bQ bT 20 t101 t102 t103 w0 _ ?aq ?au A2.z).mono ?_);(case aq=>exact aqy av.z);(case au=>exact aG (aj.ge av.z) HB.z);rintro e y9 ⟨rfl,hi,hb,hk⟩;refine ⟨_,rfl,?_⟩;replace HK:=k0 (aqB.trans (aK HK.z) hk (.inl rfl));replace HB:=k0 (hb);replace av:=k0 (hi))|(refine aqI (N:=10) rfl ?_;refine Kd.gw (Kd.int .i64) _ 2 ?hg (N:=10) ?hd (xs:=([2,3,5,7,11,13,31,101]:List Int)) (inner:=[.int .i64 2,.int .i64 3,.int .i64 5,.int .i64 7,.int .i64 11,.int .i64 13,.int .i64 31,.int .i64 101]) (ok:=fun _=>True) (bw:=fun _=>True) ?hr ?hp (fun _ hk=>hk) trivial (Below.refl _ _) (Nat.le_refl _) (by simp) ?_;(case hd=>rfl);(case hg=>rfl);(case hr=>first|(go_simp;done)|(go_simp;rfl));(case hp=>exact (aH.one (show Kd.M (Kd.int .i64) _ _ _ 2 [.int .i64 2] from rfl) (aH.one (show Kd.M (Kd.int .i64) _ _ _ 3 [.int .i64 3] from rfl) (aH.one (show Kd.M (Kd.int .i64) _ _ _ 5 [.int .i64 5] from rfl) (aH.one (show Kd.M (Kd.int .i64) _ _ _ 7 [.int .i64 7] from rfl) (aH.one (show Kd.M (Kd.int .i64) _ _ _ 11 [.int .i64 11] from rfl) (aH.one (show Kd.M (Kd.int .i64) _ _ _ 13 [.int .i64 13] from rfl) (aH.one (show Kd.M (Kd.int .i64) _ _ _ 31 [.int .i64 31] from rfl) (aH.one (show Kd.M (Kd.int .i64) _ _ _ 101 [.int .i64 101] from rfl) (aH.none _ _))))))))));intro F0 oB om hb bH bI;clear bH bI;(first|rw [← qD.z] at om|(simp only [Int.reduceToNat] at om;rw [← qD.z] at om));have oQ:=k0 (Kd.cA om (dD (aK HK.z)));replace HK:=k0 (aqB.trans (aK HK.z) (aqB.fO hb g none) (.inl rfl));replace HB:=k0 (dc (aG (aj.ge av.z) HB.z) hb);replace av:=k0 (aj.below (aqy av.z) hb);clear hb om;obtain ⟨jD,jM,rfl⟩:=Kd.cy oQ.z)|(refine aqz (f:=51) rfl ?_;refine gC (some 11) Try.func51 #[.pointer (some ⟨g,0,none⟩),.slice jD qy.length jM] ?_;(with_reducible refine (jo.calls g aJ t102 t103 _ _ qy t113 t114 t115 w0 _ ?aq ?au ?cr ?dw ?pF Gj.z).mono ?_);(case aq=>exact aqy av.z);(case au=>exact aG (aj.ge av.z) HB.z);(case cr=>exact aC ((Kd.aqP oQ.z).2.2));(case dw=>exact (Kd.aqP oQ.z).2.1);(case pF=>exact z4 (aj.tE av.z oQ.z (by decide)));rintro e pH ⟨rfl,hi,hb,hk⟩;refine ⟨_,rfl,?_⟩;replace oQ:=k0 (Kd.aqM (Kd.uo (aj.apart (show aj w0 _ g aJ t102 t103 from aqy av.z) (aR oQ.z) (by decide)) hk (fun _ h=>h.2)) (fun _ h=>h.1));replace HK:=k0 (aqB.trans (aK HK.z) hk (.inl rfl));replace HB:=k0 (hb);replace av:=k0 (hi)))
  go_ret
  exact ⟨eR,aqy av.z,aG (aj.ge av.z) HB.z,aK HK.z⟩
 obtain ⟨kI,jW⟩:=nY (([0,1,4,91,103]:List Int):List Int)
 replace H:((jo.f aJ t102 t103 kI).bind fun jx=>(some (jx.1,jx.2.1,jx.2.2)))=some (r1,r2,r3):=rH jW.z H
 replace H:=bS H;obtain ⟨⟨t107,t108,t109⟩,A4,H⟩:=H
 dsimp only at H
 simp only [Option.some.injEq,Prod.mk.injEq] at H
 obtain ⟨rfl,rfl,rfl⟩:=H
 go_enter Try.func50,Try.ntmps50
 go_wp2_with (first|(refine aqz (f:=49) rfl ?_;refine gC (some 4) Try.func49 #[.pointer (some ⟨g,0,none⟩),.int .i64 20] ?_;(with_reducible refine (dK.calls g aJ bQ bT 20 t101 t102 t103 w0 _ ?aq ?au A2.z).mono ?_);(case aq=>exact aqy av.z);(case au=>exact aG (aj.ge av.z) HB.z);rintro e w5 ⟨rfl,hi,hb,hk⟩;refine ⟨_,rfl,?_⟩;replace HK:=k0 (aqB.trans (aK HK.z) hk (.inl rfl));replace HB:=k0 (hb);replace av:=k0 (hi))|(refine aqI (N:=7) rfl ?_;refine Kd.gw (Kd.int .i64) _ 2 ?hg (N:=7) ?hd (xs:=([0,1,4,91,103]:List Int)) (inner:=[.int .i64 0,.int .i64 1,.int .i64 4,.int .i64 91,.int .i64 103]) (ok:=fun _=>True) (bw:=fun _=>True) ?hr ?hp (fun _ hk=>hk) trivial (Below.refl _ _) (Nat.le_refl _) (by simp) ?_;(case hd=>rfl);(case hg=>rfl);(case hr=>first|(go_simp;done)|(go_simp;rfl));(case hp=>exact (aH.one (show Kd.M (Kd.int .i64) _ _ _ 0 [.int .i64 0] from rfl) (aH.one (show Kd.M (Kd.int .i64) _ _ _ 1 [.int .i64 1] from rfl) (aH.one (show Kd.M (Kd.int .i64) _ _ _ 4 [.int .i64 4] from rfl) (aH.one (show Kd.M (Kd.int .i64) _ _ _ 91 [.int .i64 91] from rfl) (aH.one (show Kd.M (Kd.int .i64) _ _ _ 103 [.int .i64 103] from rfl) (aH.none _ _)))))));intro wj w6 kY hb bH bI;clear bH bI;(first|rw [← jW.z] at kY|(simp only [Int.reduceToNat] at kY;rw [← jW.z] at kY));have fF:=k0 (Kd.cA kY (dD (aK HK.z)));replace HK:=k0 (aqB.trans (aK HK.z) (aqB.fO hb g none) (.inl rfl));replace HB:=k0 (dc (aG (aj.ge av.z) HB.z) hb);replace av:=k0 (aj.below (aqy av.z) hb);clear hb kY;obtain ⟨wu,wP,rfl⟩:=Kd.cy fF.z)|(refine aqz (f:=51) rfl ?_;refine gC (some 8) Try.func51 #[.pointer (some ⟨g,0,none⟩),.slice wu kI.length wP] ?_;(with_reducible refine (jo.calls g aJ t102 t103 _ _ kI t107 t108 t109 w0 _ ?aq ?au ?cr ?dw ?pF A4.z).mono ?_);(case aq=>exact aqy av.z);(case au=>exact aG (aj.ge av.z) HB.z);(case cr=>exact aC ((Kd.aqP fF.z).2.2));(case dw=>exact (Kd.aqP fF.z).2.1);(case pF=>exact z4 (aj.tE av.z fF.z (by decide)));rintro e w9 ⟨rfl,hi,hb,hk⟩;refine ⟨_,rfl,?_⟩;replace fF:=k0 (Kd.aqM (Kd.uo (aj.apart (show aj w0 _ g aJ t102 t103 from aqy av.z) (aR fF.z) (by decide)) hk (fun _ h=>h.2)) (fun _ h=>h.1));replace HK:=k0 (aqB.trans (aK HK.z) hk (.inl rfl));replace HB:=k0 (hb);replace av:=k0 (hi)))
 go_ret
 exact ⟨eR,aqy av.z,aG (aj.ge av.z) HB.z,aK HK.z⟩
end Go.Proofs.Ytapnggjaeehpdaa.A
/- Set with little white space, by a program. -/
