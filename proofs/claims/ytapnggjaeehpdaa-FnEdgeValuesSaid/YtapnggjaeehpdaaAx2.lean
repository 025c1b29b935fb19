/- The functions that one law reaches, each as a Lean function, and that Go's call comes to what it says. Condition of each: that the Lean function answers (is not none). -/
import Derived.Test.YtapnggjaeehpdaaAx0
import Derived.Test.YtapnggjaeehpdaaAx1
namespace Go.Proofs.Ytapnggjaeehpdaa.A
open Go.RowKit Go.Proofs.bB.dI Go.Proofs.bB.ark Go.Proofs.bB.jd
attribute [local go_sem] max2_int min2_int max_two min_two max_three min_three max_four min_four   -- for this text's walks alone
set_option linter.unusedVariables false
set_option linter.unusedSimpArgs false
set_option maxHeartbeats 8000000
set_option maxRecDepth 100000
/-! ### F96: function 96 -/
def js.l0 : Nat → List Int → Int → Int → Int → List (List Int) → Option (Int × (List (List Int)) × Int × Int)
 | 0,_,_,_,_,_=>none
 | k+1,lT,ar2,q6,dx,cF=>if (cF.length:Int)≤10 then (if cF.length < 5864062014805 then (js.l0 k lT ar2 q6 dx (cF ++ [(([0,0]:List Int))])) else (none)) else (some (dx,cF,ar2,q6))
def js.f (k:Nat) (aJ:List Int) (bQ:Int) (bT:Int) (fM:Int) (eP:List (List Int)):Option (Int × (List (List Int)) × Int × Int):=(dK.f aJ bQ bT 40).bind fun kT=>(if kT.1=0 then ((jo.f aJ kT.2.1 kT.2.2 (([0,9,wrap64 (fM - 1)]:List Int))).bind fun s8=>(some (s8.1,eP,s8.2.1,s8.2.2))) else (if kT.1=1 then ((ir.f k fM eP).bind fun qa=>(if qa.2.length < 5864062014805 then (some (qa.1,(qa.2 ++ [(([0,qa.1]:List Int))]),kT.2.1,kT.2.2)) else (none))) else (if kT.1=2 then ((ir.f k fM eP).bind fun nC=>(if (nC.2.length:Int) > 0 then ((dK.f aJ kT.2.1 kT.2.2 (nC.2.length:Int)).bind fun zU=>(if 0≤zU.1 then (if zU.1 < (nC.2.length:Int) then (if (ah nC.2 zU.1).length < 17592186044416 then (some (nC.1,(nC.2.set (zU.1:Int).toNat ((ah nC.2 zU.1) ++ [0])),zU.2.1,zU.2.2)) else (none)) else (none)) else (none))) else (some (nC.1,nC.2,kT.2.1,kT.2.2)))) else (if kT.1=3 then ((ir.f k fM eP).bind fun DK=>(js.l0 k aJ kT.2.1 kT.2.2 DK.1 DK.2)) else (some (fM,eP,kT.2.1,kT.2.2))))))
def js.DH:Bool × List (List Nat × List Nat):=(true,[([],[]),([0],[0]),([],[]),([],[]),([3],[3]),([],[]),([4,5],[4,5]),([6],[6]),([],[]),([7,8],[7,8]),([1,2,0,1,2,3,4,5,6,7,8,9],[1,2]),([10,9,9,0,1,2,3,4,5,6,7,8,9],[9,10])])
def js.JY:List Nat:=[0,1,0,0,8,0,56,120,0,504,1023,2047]
theorem js.CQ:eH .any (opsOf Try.f96 12)=js.DH:=by kernel_rfl
theorem js.BS:iL js.DH.2 js.JY=true:=by kernel_rfl
theorem js.calls (k : Nat) (g : Nat) (aJ : List Int) (bQ : Int) (bT : Int) (fM : Int) (sY : Nat → Prop) (jC : Option Addr) (jL : Nat) (eP : List (List Int)) (r1 : Int) (r2 : List (List Int)) (r3 : Int) (r4 : Int) (w0 w : World) (hI : aj w0 w g aJ bQ bT) (hB : Below w0.heap.size w0 w) (af7 : Kd.V (Kd.slice 2 (Kd.int .i64)) 29 w w.heap.size (fun k_ => sY k_ ∧ k_ ≠ g) (.slice jC eP.length jL) eP) (h : js.f k aJ bQ bT fM eP = some (r1, r2, r3, r4)) :
  Calls Try.prog 96 #[.pointer (some ⟨g,0,none⟩),.agg #[.int .i64 fM,.slice jC eP.length jL]] w fun e w'=>∃ fK:Value,e=.returned (.agg #[.int .i64 r1,fK])∧Kd.V (Kd.slice 2 (Kd.int .i64)) 29 w' w.heap.size (fun k_=>(sY k_∨w.heap.size≤k_)) fK r2∧aj w0 w' g aJ r3 r4∧Below w0.heap.size w0 w'∧aqB w w' g none:=by
 have eE:=Try.underlying26
 have cS:=k0 (show Kd.V (Kd.slice 2 (Kd.int .i64)) 29 w w.heap.size (fun k_=>(sY k_∨w.heap.size≤k_)∧k_ ≠ g) (.slice jC eP.length jL) eP from Kd.aZ af7 (fun k_ hk=>⟨.inl hk.1,hk.2⟩))
 have av:=k0 hI
 have HK:=k0 (aqB.refl w g none)
 have HL:=k0 hB.size
 clear hI
 have jv:=k0 hB.size
 have HB:=k0 hB
 clear hB
 unfold js.f at h
 have H:=h
 clear h
 replace H:=bS H;obtain ⟨⟨t103,t104,t105⟩,A3,H⟩:=H
 dsimp only at H
 replace H:=iE H;obtain ⟨c4,ej,qc,H⟩|⟨ej,qc,H⟩:=H
 case inl =>
  replace H:=iE H;obtain ⟨c19,xZ,Lx,H⟩|⟨xZ,Lx,H⟩:=H
  case inl =>
   replace H:=iE H;obtain ⟨c39,acW,acX,H⟩|⟨acW,acX,H⟩:=H
   case inl =>
    replace H:=iE H;obtain ⟨c78,LH,adb,H⟩|⟨LH,adb,H⟩:=H
    case inl =>
     simp only [Option.some.injEq,Prod.mk.injEq] at H
     obtain ⟨rfl,rfl,rfl,rfl⟩:=H
     go_enter Try.func96,Try.ntmps96
     go_wp2_with (first|(refine aqI (N:=3) rfl ?_;refine fu 3 #[.int .i64 fM,.slice jC eP.length jL] 26 ?_;intro aA hg W_ bq hb;replace cS:=eL cS hg hb;replace HB:=k0 (dc (aG (aj.ge av.z) HB.z) hb);have aa:=k0 (bq);have aqF:=gW hg (dD (aK HK.z));have aqR:=k0 (Nat.le_trans jv.z aqF.z);replace HK:=k0 (aqB.trans (aK HK.z) (aqB.fO hb g none) (.inl rfl));have wF:=k0 ((by rw [hg];exact Nat.ne_of_lt (aj.lt (show aj w0 _ g aJ bQ bT from aqy av.z)):g ≠ aA));have dS:=k0 ((by rw [hg];exact Nat.ne_of_gt (aj.lt (show aj w0 _ g aJ bQ bT from aqy av.z)):aA ≠ g));replace av:=k0 (aj.below (aqy av.z) hb);clear hb bq hg)|(refine aqI (N:=4) rfl ?_;refine fu 4 #[.int .i64 0,.slice none 0 0] 26 ?_;intro dG hg aqa bq hb;replace cS:=eL cS hg hb;replace HB:=k0 (dc (aG (aj.ge av.z) HB.z) hb);have bL:=k0 (bq);have ni:=gW hg (dD (aK HK.z));have vI:=k0 (Nat.le_trans jv.z ni.z);replace HK:=k0 (aqB.trans (aK HK.z) (aqB.fO hb g none) (.inl rfl));have gL:=nL hg aa;have wG:=nG gL;replace aa:=kB aa hb;have Dv:=k0 ((by rw [hg];exact Nat.ne_of_lt (aj.lt (show aj w0 _ g aJ bQ bT from aqy av.z)):g ≠ dG));have nt:=k0 ((by rw [hg];exact Nat.ne_of_gt (aj.lt (show aj w0 _ g aJ bQ bT from aqy av.z)):dG ≠ g));replace av:=k0 (aj.below (aqy av.z) hb);clear hb bq hg)|(refine aqz (f:=49) rfl ?_;refine gC (some 8) Try.func49 #[.pointer (some ⟨g,0,none⟩),.int .i64 40] ?_;(with_reducible refine (dK.calls g aJ bQ bT 40 t103 t104 t105 w0 _ ?aq ?au A3.z).mono ?_);(case aq=>exact aqy av.z);(case au=>exact aG (aj.ge av.z) HB.z);rintro e ajT ⟨rfl,hi,hb,hk⟩;refine ⟨_,rfl,?_⟩;replace cS:=k0 (Kd.aZ (Kd.lY (Kd.aZ (ok:=fun k_=>(((((sY k_∨w.heap.size≤k_))∧k_ ≠ g)∧k_ ≠ aA)∧k_ ≠ dG)) (aV cS.z) (fun k_ aqJ=>(⟨aqJ,aqJ.1.1.2⟩:_∧k_ ≠ g))) hk (fun _ h=>h.2)) (fun _ h=>h.1));replace aa:=kK hk aa dS;replace bL:=kK hk bL nt;replace HK:=k0 (aqB.trans (aK HK.z) hk (.inl rfl));replace HB:=k0 (hb);replace av:=k0 (hi);obtain ⟨_,_⟩:=nE gL;obtain ⟨_,_⟩:=nE dS;obtain ⟨_,_,_,_⟩:=aqA aa;obtain ⟨_,_⟩:=nE nt;obtain ⟨_,_,_,_⟩:=aqA bL))
     refine bodyPost_ret (results_cell_row rfl _ _ dG 26 #[.int .i64 fM,.slice jC eP.length jL] (0,0) _ rfl kZ Try.underlying26 rfl (by kernel_rfl)) rfl ?_
     exact ⟨_,eR,aV (Kd.aZ (Kd.je (p:=⟨dG,1,none⟩) (Kd.je (p:=⟨dG,0,none⟩) (Kd.aZ cS.z (fun k_ hk=>(⟨hk,hk.2⟩:_∧k_ ≠ dG))) (fun _ hk=>hk.2) (.int .i64 fM)) (fun _ hk=>hk.2) (.slice jC eP.length jL)) (fun _ hk=>hk.1.1.1.1)),aqy av.z,aG (aj.ge av.z) HB.z,aK HK.z⟩
    replace H:=bS H;obtain ⟨⟨t134,t135⟩,Ya,H⟩:=H
    dsimp only at H
    have H':=k0 H
    clear H
    go_enter Try.func96,Try.ntmps96
    go_wp2_with (first|(refine aqI (N:=3) rfl ?_;refine fu 3 #[.int .i64 fM,.slice jC eP.length jL] 26 ?_;intro aA hg CW bq hb;replace cS:=eL cS hg hb;replace HB:=k0 (dc (aG (aj.ge av.z) HB.z) hb);have aa:=k0 (bq);have aqF:=gW hg (dD (aK HK.z));have aqR:=k0 (Nat.le_trans jv.z aqF.z);replace HK:=k0 (aqB.trans (aK HK.z) (aqB.fO hb g none) (.inl rfl));have wF:=k0 ((by rw [hg];exact Nat.ne_of_lt (aj.lt (show aj w0 _ g aJ bQ bT from aqy av.z)):g ≠ aA));have dS:=k0 ((by rw [hg];exact Nat.ne_of_gt (aj.lt (show aj w0 _ g aJ bQ bT from aqy av.z)):aA ≠ g));replace av:=k0 (aj.below (aqy av.z) hb);clear hb bq hg)|(refine aqI (N:=4) rfl ?_;refine fu 4 #[.int .i64 0,.slice none 0 0] 26 ?_;intro dG hg w81 bq hb;replace cS:=eL cS hg hb;replace HB:=k0 (dc (aG (aj.ge av.z) HB.z) hb);have bL:=k0 (bq);have ni:=gW hg (dD (aK HK.z));have vI:=k0 (Nat.le_trans jv.z ni.z);replace HK:=k0 (aqB.trans (aK HK.z) (aqB.fO hb g none) (.inl rfl));have gL:=nL hg aa;have wG:=nG gL;replace aa:=kB aa hb;have Dv:=k0 ((by rw [hg];exact Nat.ne_of_lt (aj.lt (show aj w0 _ g aJ bQ bT from aqy av.z)):g ≠ dG));have nt:=k0 ((by rw [hg];exact Nat.ne_of_gt (aj.lt (show aj w0 _ g aJ bQ bT from aqy av.z)):dG ≠ g));replace av:=k0 (aj.below (aqy av.z) hb);clear hb bq hg)|(refine aqz (f:=49) rfl ?_;refine gC (some 8) Try.func49 #[.pointer (some ⟨g,0,none⟩),.int .i64 40] ?_;(with_reducible refine (dK.calls g aJ bQ bT 40 t103 t104 t105 w0 _ ?aq ?au A3.z).mono ?_);(case aq=>exact aqy av.z);(case au=>exact aG (aj.ge av.z) HB.z);rintro e w82 ⟨rfl,hi,hb,hk⟩;refine ⟨_,rfl,?_⟩;replace cS:=k0 (Kd.aZ (Kd.lY (Kd.aZ (ok:=fun k_=>(((((sY k_∨w.heap.size≤k_))∧k_ ≠ g)∧k_ ≠ aA)∧k_ ≠ dG)) (aV cS.z) (fun k_ aqJ=>(⟨aqJ,aqJ.1.1.2⟩:_∧k_ ≠ g))) hk (fun _ h=>h.2)) (fun _ h=>h.1));replace aa:=kK hk aa dS;replace bL:=kK hk bL nt;replace HK:=k0 (aqB.trans (aK HK.z) hk (.inl rfl));replace HB:=k0 (hb);replace av:=k0 (hi);obtain ⟨_,_⟩:=nE gL;obtain ⟨_,_⟩:=nE dS;obtain ⟨_,_,_,_⟩:=aqA aa)|(refine aqz (f:=126) rfl ?_;refine gC (some 56) Try.func126 #[.agg #[.int .i64 fM,.slice jC eP.length jL]] ?_;(with_reducible refine (ir.calls k fM _ _ eP t134 t135 _ ?aq ?au Ya.z).mono ?_);(case aq=>exact aC ((Kd.cI cS.z).2.2));(case au=>exact (Kd.cI cS.z).2.1);rintro e w86 ⟨I_,rfl,aD,hb⟩;refine ⟨_,rfl,?_⟩;replace cS:=aqX cS (Kd.nw aD) hb;have GF:=k0 (Kd.fT (Kd.DG (M:=fun k_=>(w.heap.size≤k_)) aD (dD (aK HK.z)) (fun k_ h_=>h_)) (dD (aK HK.z)));replace aa:=kB aa hb;replace bL:=kB bL hb;replace HK:=k0 (aqB.trans (aK HK.z) (aqB.fO hb g none) (.inl rfl));replace HB:=k0 (dc (aG (aj.ge av.z) HB.z) hb);replace av:=k0 (aj.below (aqy av.z) hb);obtain ⟨_,_,_,_⟩:=aqA aa;obtain ⟨C5,D6,rfl⟩:=Kd.dL GF.z))
    go_loopg [] k (fun kq w'=>∃ (ar3:List (List Int)) (u102001:Value),ai (js.l0 kq aJ t104 t105 t134 ar3=some (r1,r2,r3,r4))∧ai (kq≤k)∧ai (Kd.S (Kd.slice 2 (Kd.int .i64)) 29 w' w.heap.size (fun k_=>(w.heap.size≤k_)) u102001 ar3)∧ai (w'.heap[aA]?=some (.cells #[.int .i64 t134,u102001] 26 (0,0)))∧ai (w'.heap[dG]?=some (.cells #[.int .i64 0,(.slice none 0 0)] 26 (0,0)))∧ai (aj w0 w' g aJ t104 t105)∧ai (aqB w w' g none)∧ai (Below w0.heap.size w0 w'))
    case atStart=>exact ⟨(t135),(.slice C5 t135.length D6),H',⟨Nat.le_refl _⟩,⟨aS (Kd.b6 (gS 1 (.slice C5 t135.length D6) (gS 0 (.int .i64 t134) (tS GF aa))) (fun _ hk=>hk.1.1))⟩,⟨kZ⟩,⟨kZ⟩,⟨aqy av.z⟩,⟨aK HK.z⟩,⟨aG (aj.ge av.z) HB.z⟩⟩
    case round =>
     clear H'
     obtain ⟨ar3,u102001,HA,aI,rX,aa,bL,av,HK,HB⟩:=hrel
     cases gk with
     | zero=>exact absurd HA.z (by simp [js.l0])
     | succ k1 =>
      have H:=HA.z
      clear HA
      simp only [js.l0] at H
      by_cases c89:(ar3.length:Int)≤10
      case neg =>
       rw [if_neg c89] at H
       have Hf:=decide_eq_false c89
       have adi:decide (ar3.length≤10)=false:=decide_eq_false (by omega)
       clear c89
       simp only [Option.some.injEq,Prod.mk.injEq] at H
       obtain ⟨rfl,rfl,rfl,rfl⟩:=H
       obtain ⟨_,_⟩:=nE gL
       obtain ⟨_,_⟩:=nE dS
       obtain ⟨_,_,_,_⟩:=aqA aa
       obtain ⟨Pj,Sr,rfl⟩:=Kd.dL rX.z
       obtain ⟨_,_⟩:=nE nt
       obtain ⟨_,_,_,_⟩:=aqA bL
       go_wp2
       refine bodyPost_ret (results_cell_row rfl _ _ dG 26 #[.int .i64 t134,.slice Pj ar3.length Sr] (0,0) _ rfl kZ Try.underlying26 rfl (by kernel_rfl)) rfl ?_
       exact ⟨_,eR,Kd.aZ (Kd.DF (aS (Kd.b6 (gS 1 (.slice Pj ar3.length Sr) (gS 0 (.int .i64 t134) (tS rX bL))) (fun _ hk=>hk.1)))) (fun k_ hk=>by first|exact ⟨(.inr (hk.1)),hk.2⟩|exact (.inr (hk))),aqy av.z,aG (aj.ge av.z) HB.z,aK HK.z⟩
      rw [if_pos c89] at H
      have Hf:=decide_eq_true c89
      have adi:decide (ar3.length≤10)=true:=decide_eq_true (by omega)
      clear c89
      obtain ⟨xp,BG⟩:=nY (([0,0]:List Int):List Int)
      replace H:(if ar3.length < 5864062014805 then (js.l0 k1 aJ t104 t105 t134 (ar3 ++ [xp])) else (none))=some (r1,r2,r3,r4):=rH BG.z H
      replace H:=iS H;obtain ⟨c90,H⟩:=H
      have atv:=k0 c90
      clear c90
      obtain ⟨Bb,Dy⟩:=nY (ar3 ++ [xp]:List (List Int))
      replace H:(js.l0 k1 aJ t104 t105 t134 Bb)=some (r1,r2,r3,r4):=rH Dy.z H
      have H':=k0 H
      clear H
      obtain ⟨_,_⟩:=nE gL
      obtain ⟨_,_⟩:=nE dS
      obtain ⟨_,_,_,_⟩:=aqA aa
      obtain ⟨JX,LZ,rfl⟩:=Kd.dL rX.z
      go_wp2_with (first|(refine aqI (N:=63) rfl ?_;refine Kd.gw (Kd.int .i64) _ 2 ?hg (N:=63) ?hd (xs:=([0,0]:List Int)) (inner:=[.int .i64 0,.int .i64 0]) (ok:=fun _=>True) (bw:=fun _=>True) ?hr ?hp (fun _ hk=>hk) trivial (Below.refl _ _) (Nat.le_refl _) (by simp) ?_;(case hd=>rfl);(case hg=>rfl);(case hr=>first|(go_simp;done)|(go_simp;rfl));(case hp=>exact (aH.one (show Kd.M (Kd.int .i64) _ _ _ 0 [.int .i64 0] from rfl) (aH.one (show Kd.M (Kd.int .i64) _ _ _ 0 [.int .i64 0] from rfl) (aH.none _ _))));intro apo w95 Ct hb bH bI;clear bH bI;(first|rw [← BG.z] at Ct|(simp only [Int.reduceToNat] at Ct;rw [← BG.z] at Ct));replace rX:=iw rX (Kd.cm Ct) hb;have GG:=k0 (Kd.cA (Kd.BK (M:=fun k_=>(w.heap.size≤k_)) Ct (dD (aK HK.z)) (fun k_ h_=>h_)) (dD (aK HK.z)));replace aa:=kB aa hb;replace bL:=kB bL hb;replace HK:=k0 (aqB.trans (aK HK.z) (aqB.fO hb g none) (.inl rfl));replace HB:=k0 (dc (aG (aj.ge av.z) HB.z) hb);replace av:=k0 (aj.below (aqy av.z) hb);clear hb Ct;obtain ⟨Pv,SA,rfl⟩:=Kd.cy GG.z)|((with_reducible refine ars (b:=.append) (xs:=#[.tmp 62,.tmp 64]) rfl ?_);at_builtin;refine Kd.asc (Kd.slice 2 (Kd.int .i64)) w.heap.size rfl (.tmp 62) (.tmp 64) 24 29 (.slice none 0 0) 24 rfl Try.underlying24 o_ rfl (by decide) (by omega) (.slice JX ar3.length LZ) ar3 xp [.slice Pv xp.length SA] (fun k_=>(w.heap.size≤k_)) (fun k_=>some k_=(.slice Pv xp.length SA:Value).ownBlock) rfl rfl ?aP (fun k_ aqJ=>((Kd.aqM (ok':=fun k_=>((fun k_=>(w.heap.size≤k_))) k_∧some k_ ≠ (.slice JX ar3.length LZ:Value).ownBlock) (Kd.aq' (GG.z) (Kd.fH rX.z) (by decide)) (fun k_ hk=>⟨hk.1.1,hk.2⟩))).1 k_ aqJ.symm) ?aF ?aO (Below.refl _ _) ?aS ?aL ?_;(case aP=>exact Kd.lD (Kd.aqM (Kd.oV rfl (Kd.aqM (ok':=fun k_=>((fun k_=>(w.heap.size≤k_))) k_∧some k_ ≠ (.slice JX ar3.length LZ:Value).ownBlock) (Kd.aq' (GG.z) (Kd.fH rX.z) (by decide)) (fun k_ hk=>⟨hk.1.1,hk.2⟩))) (fun _ h_=>h_)));(case aF=>exact (fun k_ hk=>(Nat.le_trans (dD (aK HK.z)) hk)));(case aO=>exact (aS (Kd.b6 rX.z (fun k_ hk=>⟨hk.1,fun e_=>hk.2 e_⟩))));(case aS=>exact (dD (aK HK.z)));(case aL=>have:=atv.out;omega);intro apr Xi ho hb hg bg;rw [← Dy.z] at ho;replace aa:=k0 (aq2 (aB aa.z) hg (Kd.arl rX.z aa.z (by decide)));replace bL:=k0 (aq2 (aB bL.z) hg (Kd.arl rX.z bL.z (by decide)));replace HB:=k0 (xS (aG (aj.ge av.z) HB.z) HL.z hb);replace av:=k0 (aj.grown (aqy av.z) hg (aj.AA av.z rX.z (by decide)));replace HK:=k0 (aqB.trans (aK HK.z) (aqB.aso hg g) (Kd.zM rX.z));have Qb:=k0 (ho);clear rX GG;clear ho hb hg bg;obtain ⟨C6,D7,rfl⟩:=Kd.dL Qb.z;obtain ⟨_,_,_,_⟩:=aqA aa))
      go_roundg k1
      case measure=>have:=aI.z;omega
      case rel=>exact ⟨(Bb),(.slice C6 Bb.length D7),H',⟨by have:=aI.z;omega⟩,⟨aS (Kd.b6 (gS 1 (.slice C6 Bb.length D7) (tS Qb aa)) (fun _ hk=>hk.1))⟩,⟨kZ⟩,⟨kZ⟩,⟨aqy av.z⟩,⟨aK HK.z⟩,⟨aG (aj.ge av.z) HB.z⟩⟩
   replace H:=bS H;obtain ⟨⟨t122,t123⟩,Pc,H⟩:=H
   dsimp only at H
   by_cases c41:(t123.length:Int) > 0
   case neg =>
    rw [if_neg c41] at H
    have atz:=decide_eq_false c41
    have R3:decide (0 < t123.length)=false:=decide_eq_false (by omega)
    clear c41
    simp only [Option.some.injEq,Prod.mk.injEq] at H
    obtain ⟨rfl,rfl,rfl,rfl⟩:=H
    go_enter Try.func96,Try.ntmps96
    go_wp2_with (first|(refine aqI (N:=3) rfl ?_;refine fu 3 #[.int .i64 fM,.slice jC eP.length jL] 26 ?_;intro aA hg w67 bq hb;replace cS:=eL cS hg hb;replace HB:=k0 (dc (aG (aj.ge av.z) HB.z) hb);have aa:=k0 (bq);have aqF:=gW hg (dD (aK HK.z));have aqR:=k0 (Nat.le_trans jv.z aqF.z);replace HK:=k0 (aqB.trans (aK HK.z) (aqB.fO hb g none) (.inl rfl));have wF:=k0 ((by rw [hg];exact Nat.ne_of_lt (aj.lt (show aj w0 _ g aJ bQ bT from aqy av.z)):g ≠ aA));have dS:=k0 ((by rw [hg];exact Nat.ne_of_gt (aj.lt (show aj w0 _ g aJ bQ bT from aqy av.z)):aA ≠ g));replace av:=k0 (aj.below (aqy av.z) hb);clear hb bq hg)|(refine aqI (N:=4) rfl ?_;refine fu 4 #[.int .i64 0,.slice none 0 0] 26 ?_;intro dG hg w68 bq hb;replace cS:=eL cS hg hb;replace HB:=k0 (dc (aG (aj.ge av.z) HB.z) hb);have bL:=k0 (bq);have ni:=gW hg (dD (aK HK.z));have vI:=k0 (Nat.le_trans jv.z ni.z);replace HK:=k0 (aqB.trans (aK HK.z) (aqB.fO hb g none) (.inl rfl));have gL:=nL hg aa;have wG:=nG gL;replace aa:=kB aa hb;have Dv:=k0 ((by rw [hg];exact Nat.ne_of_lt (aj.lt (show aj w0 _ g aJ bQ bT from aqy av.z)):g ≠ dG));have nt:=k0 ((by rw [hg];exact Nat.ne_of_gt (aj.lt (show aj w0 _ g aJ bQ bT from aqy av.z)):dG ≠ g));replace av:=k0 (aj.below (aqy av.z) hb);clear hb bq hg)|(refine aqz (f:=49) rfl ?_;refine gC (some 8) Try.func49 #[.pointer (some ⟨g,0,none⟩),.int .i64 40] ?_;(with_reducible refine (dK.calls g aJ bQ bT 40 t103 t104 t105 w0 _ ?aq ?au A3.z).mono ?_);(case aq=>exact aqy av.z);(case au=>exact aG (aj.ge av.z) HB.z);rintro e w69 ⟨rfl,hi,hb,hk⟩;refine ⟨_,rfl,?_⟩;replace cS:=k0 (Kd.aZ (Kd.lY (Kd.aZ (ok:=fun k_=>(((((sY k_∨w.heap.size≤k_))∧k_ ≠ g)∧k_ ≠ aA)∧k_ ≠ dG)) (aV cS.z) (fun k_ aqJ=>(⟨aqJ,aqJ.1.1.2⟩:_∧k_ ≠ g))) hk (fun _ h=>h.2)) (fun _ h=>h.1));replace aa:=kK hk aa dS;replace bL:=kK hk bL nt;replace HK:=k0 (aqB.trans (aK HK.z) hk (.inl rfl));replace HB:=k0 (hb);replace av:=k0 (hi);obtain ⟨_,_⟩:=nE gL;obtain ⟨_,_⟩:=nE dS;obtain ⟨_,_,_,_⟩:=aqA aa)|(refine aqz (f:=126) rfl ?_;refine gC (some 33) Try.func126 #[.agg #[.int .i64 fM,.slice jC eP.length jL]] ?_;(with_reducible refine (ir.calls k fM _ _ eP t122 t123 _ ?aq ?au Pc.z).mono ?_);(case aq=>exact aC ((Kd.cI cS.z).2.2));(case au=>exact (Kd.cI cS.z).2.1);rintro e OV ⟨OH,rfl,aD,hb⟩;refine ⟨_,rfl,?_⟩;replace cS:=aqX cS (Kd.nw aD) hb;have iQ:=k0 (Kd.fT (Kd.DG (M:=fun k_=>(w.heap.size≤k_)) aD (dD (aK HK.z)) (fun k_ h_=>h_)) (dD (aK HK.z)));replace aa:=kB aa hb;replace bL:=kB bL hb;replace HK:=k0 (aqB.trans (aK HK.z) (aqB.fO hb g none) (.inl rfl));replace HB:=k0 (dc (aG (aj.ge av.z) HB.z) hb);replace av:=k0 (aj.below (aqy av.z) hb);obtain ⟨_,_,_,_⟩:=aqA aa;obtain ⟨Bj,Cb,rfl⟩:=Kd.dL iQ.z;obtain ⟨_,_⟩:=nE nt;obtain ⟨_,_,_,_⟩:=aqA bL))
    refine bodyPost_ret (results_cell_row rfl _ _ dG 26 #[.int .i64 t122,.slice Bj t123.length Cb] (0,0) _ rfl kZ Try.underlying26 rfl (by kernel_rfl)) rfl ?_
    exact ⟨_,eR,Kd.aZ (Kd.DF (aS (Kd.b6 (Kd.oW (p:=⟨dG,1,none⟩) (Kd.oW (p:=⟨dG,0,none⟩) (Kd.oW (p:=⟨aA,1,none⟩) (Kd.oW (p:=⟨aA,0,none⟩) (Kd.xO (tS iQ aa) bL.z (by decide)) (fun _ hk=>hk.1.2) (.int .i64 t122)) (fun _ hk=>hk.1.2) (.slice Bj t123.length Cb)) (fun _ hk=>hk.2) (.int .i64 t122)) (fun _ hk=>hk.2) (.slice Bj t123.length Cb)) (fun _ hk=>hk.1.1.1)))) (fun k_ hk=>by first|exact ⟨(.inr (hk.1)),hk.2⟩|exact (.inr (hk))),aqy av.z,aG (aj.ge av.z) HB.z,aK HK.z⟩
   rw [if_pos c41] at H
   have atz:=decide_eq_true c41
   have R3:decide (0 < t123.length)=true:=decide_eq_true (by omega)
   clear c41
   replace H:=bS H;obtain ⟨⟨t126,t127,t128⟩,X5,H⟩:=H
   dsimp only at H
   replace H:=iS H;obtain ⟨c43,H⟩:=H
   have asA:=decide_eq_true c43
   clear c43
   replace H:=iS H;obtain ⟨c44,H⟩:=H
   have acY:=decide_eq_true c44
   clear c44
   replace H:=iS H;obtain ⟨c45,H⟩:=H
   have aaf:=k0 c45
   clear c45
   obtain ⟨eM,zL⟩:=nY ((ah t123 t126) ++ [0]:List Int)
   replace H:(some (t122,(t123.set (t126:Int).toNat eM),t127,t128))=some (r1,r2,r3,r4):=rH zL.z H
   obtain ⟨Xw,QM⟩:=nY (t123.set (t126:Int).toNat eM:List (List Int))
   replace H:(some (t122,Xw,t127,t128))=some (r1,r2,r3,r4):=rH QM.z H
   simp only [Option.some.injEq,Prod.mk.injEq] at H
   obtain ⟨rfl,rfl,rfl,rfl⟩:=H
   go_enter Try.func96,Try.ntmps96
   try go_wp2_with (first|(refine aqI (N:=3) rfl ?_;refine fu 3 #[.int .i64 fM,.slice jC eP.length jL] 26 ?_;intro aA hg w47 bq hb;replace cS:=eL cS hg hb;replace HB:=k0 (dc (aG (aj.ge av.z) HB.z) hb);have aa:=k0 (bq);have aqF:=gW hg (dD (aK HK.z));have aqR:=k0 (Nat.le_trans jv.z aqF.z);replace HK:=k0 (aqB.trans (aK HK.z) (aqB.fO hb g none) (.inl rfl));have wF:=k0 ((by rw [hg];exact Nat.ne_of_lt (aj.lt (show aj w0 _ g aJ bQ bT from aqy av.z)):g ≠ aA));have dS:=k0 ((by rw [hg];exact Nat.ne_of_gt (aj.lt (show aj w0 _ g aJ bQ bT from aqy av.z)):aA ≠ g));replace av:=k0 (aj.below (aqy av.z) hb);clear hb bq hg)|(refine aqI (N:=4) rfl ?_;refine fu 4 #[.int .i64 0,.slice none 0 0] 26 ?_;intro dG hg Xh bq hb;replace cS:=eL cS hg hb;replace HB:=k0 (dc (aG (aj.ge av.z) HB.z) hb);have bL:=k0 (bq);have ni:=gW hg (dD (aK HK.z));have vI:=k0 (Nat.le_trans jv.z ni.z);replace HK:=k0 (aqB.trans (aK HK.z) (aqB.fO hb g none) (.inl rfl));have gL:=nL hg aa;have wG:=nG gL;replace aa:=kB aa hb;have Dv:=k0 ((by rw [hg];exact Nat.ne_of_lt (aj.lt (show aj w0 _ g aJ bQ bT from aqy av.z)):g ≠ dG));have nt:=k0 ((by rw [hg];exact Nat.ne_of_gt (aj.lt (show aj w0 _ g aJ bQ bT from aqy av.z)):dG ≠ g));replace av:=k0 (aj.below (aqy av.z) hb);clear hb bq hg)|(refine aqz (f:=49) rfl ?_;refine gC (some 8) Try.func49 #[.pointer (some ⟨g,0,none⟩),.int .i64 40] ?_;(with_reducible refine (dK.calls g aJ bQ bT 40 t103 t104 t105 w0 _ ?aq ?au A3.z).mono ?_);(case aq=>exact aqy av.z);(case au=>exact aG (aj.ge av.z) HB.z);rintro e w49 ⟨rfl,hi,hb,hk⟩;refine ⟨_,rfl,?_⟩;replace cS:=k0 (Kd.aZ (Kd.lY (Kd.aZ (ok:=fun k_=>(((((sY k_∨w.heap.size≤k_))∧k_ ≠ g)∧k_ ≠ aA)∧k_ ≠ dG)) (aV cS.z) (fun k_ aqJ=>(⟨aqJ,aqJ.1.1.2⟩:_∧k_ ≠ g))) hk (fun _ h=>h.2)) (fun _ h=>h.1));replace aa:=kK hk aa dS;replace bL:=kK hk bL nt;replace HK:=k0 (aqB.trans (aK HK.z) hk (.inl rfl));replace HB:=k0 (hb);replace av:=k0 (hi);obtain ⟨_,_⟩:=nE gL;obtain ⟨_,_⟩:=nE dS;obtain ⟨_,_,_,_⟩:=aqA aa)|(refine aqz (f:=126) rfl ?_;refine gC (some 33) Try.func126 #[.agg #[.int .i64 fM,.slice jC eP.length jL]] ?_;(with_reducible refine (ir.calls k fM _ _ eP t122 t123 _ ?aq ?au Pc.z).mono ?_);(case aq=>exact aC ((Kd.cI cS.z).2.2));(case au=>exact (Kd.cI cS.z).2.1);rintro e w53 ⟨OH,rfl,aD,hb⟩;refine ⟨_,rfl,?_⟩;replace cS:=aqX cS (Kd.nw aD) hb;have iQ:=k0 (Kd.fT (Kd.DG (M:=fun k_=>(w.heap.size≤k_)) aD (dD (aK HK.z)) (fun k_ h_=>h_)) (dD (aK HK.z)));replace aa:=kB aa hb;replace bL:=kB bL hb;replace HK:=k0 (aqB.trans (aK HK.z) (aqB.fO hb g none) (.inl rfl));replace HB:=k0 (dc (aG (aj.ge av.z) HB.z) hb);replace av:=k0 (aj.below (aqy av.z) hb);obtain ⟨_,_,_,_⟩:=aqA aa;obtain ⟨JV,wO,rfl⟩:=Kd.dL iQ.z)|(refine aqz (f:=49) rfl ?_;refine gC (some 41) Try.func49 #[.pointer (some ⟨g,0,none⟩),.int .i64 (t123.length:Int)] ?_;(with_reducible refine (dK.calls g aJ t104 t105 (t123.length:Int) t126 t127 t128 w0 _ ?aq ?au X5.z).mono ?_);(case aq=>exact aqy av.z);(case au=>exact aG (aj.ge av.z) HB.z);rintro e w56 ⟨rfl,hi,hb,hk⟩;refine ⟨_,rfl,?_⟩;replace cS:=k0 (Kd.aZ (Kd.lY (Kd.aZ (ok:=fun k_=>((((((sY k_∨w.heap.size≤k_))∧k_ ≠ g)∧k_ ≠ aA)∧k_ ≠ dG)∧some k_ ≠ (.slice JV t123.length wO:Value).ownBlock)) (fV cS) (fun k_ aqJ=>(⟨aqJ,aqJ.1.1.1.2⟩:_∧k_ ≠ g))) hk (fun _ h=>h.2)) (fun _ h=>h.1));replace bL:=k0 (aqB.blk hk (g':=dG) (o:=.cells #[.int .i64 0,.slice none 0 0] 26 (0,0)) kZ nt.z (by simp));replace iQ:=k0 (Kd.b6 (Kd.p8 (aj.oZ (show aj w0 _ g aJ t104 t105 from aqy av.z) (AZ iQ aa) (by decide)) hk (fun _ h=>h.2)) (fun _ h=>h.1));replace aa:=k0 (aqB.blk hk (g':=aA) (o:=sO t122 JV t123 wO 26) kZ dS.z (by simp));replace HK:=k0 (aqB.trans (aK HK.z) hk (.inl rfl));replace HB:=k0 (hb);replace av:=k0 (hi)))
   replace cS:=k0 (Kd.lG cS.z);replace iQ:=k0 (Kd.gf iQ.z);replace aa:=k0 (cJ aa.z);replace bL:=k0 (cJ bL.z);replace av:=k0 (aj.drew av.z);replace HK:=k0 (VN HK.z);replace HB:=k0 (aqW HB.z)
   obtain ⟨ox,oy⟩:=iN t126 (t123.length:Int)
   obtain ⟨BQ,sP,ar_,e129,mQ,uO,uI⟩:=cD (Kd.a_ iQ.z).2.2 t126 ox oy
   cases e129
   obtain ⟨Sf,EF,Ex,ye⟩:=Kd.aq9 iQ.z [] t126 ox (by first|exact oy|exact oD|(have e_:=(Kd.a_ iQ.z).1;omega))
   obtain ⟨W6,rfl,uB⟩:=Ex
   have o9:=ye 0 _ rfl
   rw [Nat.add_zero,show ((Kd.slice 2 (Kd.int .i64))).sz=1 from rfl,Nat.mul_one] at o9
   replace o9:=Option.some.inj (o9.symm.trans mQ)
   rw [o9] at uB
   have qA:=k0 (show Kd.R (Kd.int .i64) 2 _ _ _ _ (ah t123 t126) from uB)
   clear o9 uB
   have zH:=k0 mQ
   clear ye EF
   have wD:=k0 uI
   have J_:=k0 uO
   clear uI uO
   replace ox:=eT ox
   replace oy:=eT oy
   have n_:=k0 (Kd.b6 (ok':=(fun k_=>(w.heap.size≤k_))) iQ.z (fun k_ hk=>hk.1))
   clear iQ
   have iQ:=n_
   clear n_
   obtain ⟨o6,LX,Ei,Tn,aeK,ank,PZ⟩:=Kd.K_ iQ.z (by have h_:(t126:Int) < ((t123.length:Int):Int):=oD;have h2_:0≤(t126:Int):=oD;omega)
   (first|cases Ei|(injection Ei with bC eo ek;(first|subst bC|(injection bC with bC;subst bC));subst ek;clear eo))
   have YU:=k0 Tn
   have Y0:=k0 PZ
   clear Tn aeK PZ
   (first|simp only [add_plain] at mQ|skip)
   obtain ⟨Wj,am7,afv,aeQ,atE,_,_,Tz⟩:=Kd.K9 iQ.z [] (t126:Int) oD (by have h_:(t126:Int) < ((t123.length:Int):Int):=oD;first|exact h_|(have e_:=(Kd.a_ iQ.z).1;omega)|simpa using h_)
   obtain ⟨apX,rfl,Tr⟩:=aeQ
   have Ft:=atE 0 _ rfl
   have MB:=zH.z
   (try simp only [add_plain] at MB)
   (try simp only [Nat.add_zero] at Ft)
   (try rw [show ((Kd.slice 2 (Kd.int .i64))).sz=1 from rfl,Nat.mul_one] at Ft)
   replace Ft:=Option.some.inj (Ft.symm.trans MB)
   subst Ft
   clear MB atE afv
   have GX:=k0 (show Kd.R (Kd.int .i64) 2 _ w.heap.size Wj (.slice sP (ah t123 t126).length ar_) (ah t123 t126) from Tr)
   have Bo:=k0 Tz
   have Km:=k0 (Kd.a_ iQ.z).1
   clear Tz Tr
   refine gz (n:=12) (S:=fun w'=>w'.cell? ⟨aA,0,none⟩=some (.int .i64 t122)∧w'.cell? ⟨aA,1,none⟩=some (.slice (some ⟨o6,0,none⟩) t123.length wO)∧w'.cell? ⟨o6,(t126).toNat,none⟩=some (.slice sP (ah t123 t126).length ar_)) (ds:=[11]) (ba 12 0) (by kernel_rfl) rfl rfl ⟨cH aa,cE aa,mQ⟩ (fun hHeld=>?_);refine hJ js.CQ js.BS (fun ak bE=>?_)
   generalize w56.drew=OU at cS iQ aa bL av HK HB Y0 Bo qA wD zH GX mQ hHeld ⊢
   refine pu 0 (some 42) (ba 12 1) ak (h:=?_)
   refine pu 2 (some 44) (ba 12 5) ak (h:=?_)
   refine pu 3 (some 45) (ba 12 13) ak (h:=?_)
   refine pu 5 (some 47) (ba 12 45) ak (h:=?_)
   refine ta 1 (some 43) (ba 12 47) ak bE hHeld (hy:=Or.inl ⟨by rfl,by rintro w' ⟨s0,s1,s2⟩;go_simp;with_reducible rfl⟩) (h:=?_)
   refine ta 4 (some 46) (ba 12 63) ak bE hHeld (hy:=Or.inl ⟨by rfl,by rintro w' ⟨s0,s1,s2⟩;go_simp;with_reducible rfl⟩) (h:=?_)
   refine pu 6 (some 48) (ba 12 127) ak (h:=?_)
   refine ta 7 (some 49) (ba 12 255) ak bE hHeld (hy:=Or.inl ⟨by rfl,by rintro w' ⟨s0,s1,s2⟩;go_simp;with_reducible rfl⟩) (h:=?_)
   refine eG (i:=8) (N:=some 50) (ba 12 511) rfl rfl (dU ak.out (by kernel_rfl)) (by decide) (fun K hK=>?_)
   refine F4 (w1:=?_) (v:=?_) (by rfl) rfl ?_ ?_
   rotate_left 2
   ·go_simp
    constructor
    ·rfl
    ·rfl
   refine hK.out _ _ ⟨(fI (iW aa.z _) 0).trans rfl,(fI (iW aa.z _) 1).trans rfl,(World.cell?_alloc_lt _ _ _ (World.block_lt_of_cell? _ _ (hHeld.2.2))).trans (hHeld.2.2)⟩ (fun hHeld=>?_)
   clear hK K
   refine eV (a':=?_) ?_ ?_
   rotate_left;· show Act.put _ (some 50) _=_;simp only [Act.put,zI,zZ,zS,bJ,ck];rfl
   refine eG (i:=9) (N:=some 51) (ba 12 1023) rfl rfl (dU ak.out (by kernel_rfl)) (by decide) (fun K hK=>?_)
   refine Kd.Q6 (Kd.int .i64) w.heap.size (by rfl) (.tmp 49) (.tmp 50) 29 2 (.int .i64 0) 8 rfl Try.underlying29 lS rfl (by decide) (by omega) (.slice sP (ah t123 t126).length ar_) (ah t123 t126) 0 [.int .i64 0] (fun k_=>Wj k_∨((fun k_=>(w.heap.size≤k_))) k_∧OU.heap.size≤k_) (fun _=>False) rfl rfl ?aP (fun _ hk=>hk.elim) ?aF ?aO (Below.refl _ _) ?aS ?aL ?_
   (case aP=>exact rfl)
   (case aF=>exact (fun k_ hk=>.inr ⟨by first|trivial|exact Nat.le_trans (dD (aK HK.z)) hk,hk⟩))
   (case aO=>exact (aR (Kd.aqM GX.out (fun _ hk=>.inl hk))))
   (case aS=>exact (dD (aK HK.z)))
   (case aL=>have:=aaf.out;omega)
   intro apk xd ho hb hg bg
   (first|have ki:=r8 hg (hHeld.2.2) (by first|(rw [add_block];exact (fun e_=>((qA.z.1 _ e_.symm).2) rfl))|(show some (Addr.add _ _).block ≠ _;rw [add_block];exact (fun e_=>((qA.z.1 _ e_.symm).2) rfl))|exact (fun e_=>((qA.z.1 _ e_.symm).2) rfl))|have ki:=r8 hg (adt (hHeld.2.2) (by first|(rw [add_block];exact Kd.p9 iQ.z _ rfl)|(show (Addr.add _ _).block < _;rw [add_block];exact Kd.p9 iQ.z _ rfl)|exact Kd.p9 iQ.z _ rfl)) (by first|(rw [add_block];exact (fun e_=>((qA.z.1 _ e_.symm).2) rfl))|(show some (Addr.add _ _).block ≠ _;rw [add_block];exact (fun e_=>((qA.z.1 _ e_.symm).2) rfl))|exact (fun e_=>((qA.z.1 _ e_.symm).2) rfl)))
   rw [← zL.z] at ho
   replace aa:=k0 (aq2 (aB aa.z) hg (Kd.aro qA.z aa.z (by decide)));replace bL:=k0 (aq2 (aB bL.z) hg (Kd.aro qA.z bL.z (by decide)));replace HB:=k0 (xS (aG (aj.ge av.z) HB.z) HL.z hb);replace av:=k0 (aj.grown (aqy av.z) hg (aj.tE av.z qA.z (by decide)));replace HK:=k0 (aqB.trans (aK HK.z) (aqB.aso hg g) (Kd.Q8 qA.z));replace Bo:=k0 (Kd.Qy (Kd.Z1 (by repeat (first|exact Bo.out|refine Kd.ZU ?_ _|refine Kd.ZX ?_ _|refine Kd.ZW ?_))) hg (fun k_ e_=>.inl (GX.out.1 k_ e_)));have P8:=k0 (ho);clear iQ GX qA
   clear ho hb hg bg
   have Wp:0≤(t126:Int):=oD
   have Ww:(t126:Int) < ((t123.length:Int):Int):=oD
   replace Wp:=eT Wp
   replace Ww:=eT Ww
   obtain ⟨vG,ux,SZ⟩:=Kd.cy P8.z
   (first|subst SZ|(injection SZ with gh jY fU;have jZ:=gh.symm;have arq:=fU.symm;clear gh jY fU;subst jZ;subst arq))
   obtain ⟨_,_,HY,_,_,yf,_⟩:=Kd.KJ Bo.out oD (by have h_:(t126:Int) < ((t123.length:Int):Int):=oD;first|exact h_|(have e_:=(Km.out);omega)|simpa using h_)
   obtain ⟨_,yh⟩:=Kd.ZV Bo.out oD (by have h_:(t126:Int) < ((t123.length:Int):Int):=oD;first|exact h_|(have e_:=(Km.out);omega)|simpa using h_)
   have Aq:=yf 0 _ rfl
   have Ag:=yh 0
   (try simp only [Nat.add_zero] at Aq Ag)
   (try rw [show ((Kd.slice 2 (Kd.int .i64))).sz=1 from rfl,Nat.mul_one] at Aq)
   (try rw [show ((Kd.slice 2 (Kd.int .i64))).sz=1 from rfl,Nat.mul_one] at Ag)
   have Ks:=Kd.abk Bo.out oD (by have h_:(t126:Int) < ((t123.length:Int):Int):=oD;first|exact h_|(have e_:=(Km.out);omega)|simpa using h_) (seg:=[.slice vG eM.length ux]) (j:=0) (show 1≤1 from by decide) (x':=eM) (Kd.lD P8.z) (fun _ hk=>hk)
   (try simp only [show ((Kd.slice 2 (Kd.int .i64))).sz=1 from rfl,Nat.mul_one,Nat.add_zero] at Ks)
   clear yf yh
   have alD:=k0 (show g ≠ o6 from by have h_:=aj.tE av.z HY (by decide);intro e_;exact h_ (by rw [e_];rfl))
   have Zu:=k0 (show aA ≠ o6 from by have h_:=Kd.aro HY aa.z (by decide);intro e_;exact h_ (by rw [e_];rfl))
   have Zv:=k0 (show dG ≠ o6 from by have h_:=Kd.aro HY bL.z (by decide);intro e_;exact h_ (by rw [e_];rfl))
   have KC:=Ks.1
   rw [← QM.z] at KC
   have ZD:=k0 KC
   obtain ⟨_,Ur⟩:=Kd.BM HY o6 rfl
   have ak7:=k0 Ur
   clear Ks KC Ur
   refine hK.out _ _ ⟨cH aa,cE aa,ki⟩ (fun hHeld=>?_)
   clear hK K
   refine eV (a':=?_) ?_ ?_
   rotate_left;· show Act.put _ (some 51) _=_;simp only [Act.put,zI,zZ,zS,bJ,ck];rfl
   refine pu 10 (some 52) (ba 12 2047) ak (h:=?_)
   refine tD (i:=11) (N:=none) (ba 12 4095) rfl rfl (dU ak.out (by kernel_rfl)) (by decide) (fun K hK=>?_)
   refine oz (w1:=?_) (by rfl) rfl ?_ ?_
   rotate_left;· go_simp;rfl
   refine hK.out _ _ ?_
   clear hK K
   refine gx (gZ ak.out (by kernel_rfl)) ?_
   have fX:ai (Kd.S (Kd.slice 2 (Kd.int .i64)) 29 (xd.setCell ⟨o6,(t126:Int).toNat,none⟩ (.slice vG eM.length ux)) w.heap.size (fun k_=>(w.heap.size≤k_)) (.slice (some ⟨o6,0,none⟩) t123.length wO) Xw):=⟨aS (ZD.out)⟩
   have fY:ai ((xd.setCell ⟨o6,(t126:Int).toNat,none⟩ (.slice vG eM.length ux)).heap[aA]?=some (.cells #[.int .i64 t122,.slice (some ⟨o6,0,none⟩) t123.length wO] 26 (0,0))):=⟨by (with_reducible repeat (first|refine arL ?_ _|refine cJ ?_|refine iW ?_ _));refine s7 ?_ Zu.out _;exact bk⟩
   have iJ:ai ((xd.setCell ⟨o6,(t126:Int).toNat,none⟩ (.slice vG eM.length ux)).heap[dG]?=some (.cells #[.int .i64 0,.slice none 0 0] 26 (0,0))):=⟨by (with_reducible repeat (first|refine arL ?_ _|refine cJ ?_|refine iW ?_ _));refine s7 ?_ Zv.out _;exact bk⟩
   have iK:ai (aj w0 (xd.setCell ⟨o6,(t126:Int).toNat,none⟩ (.slice vG eM.length ux)) g aJ t127 t128):=⟨aqy av.z⟩
   have mR:ai (aqB w (xd.setCell ⟨o6,(t126:Int).toNat,none⟩ (.slice vG eM.length ux)) g none):=⟨aK HK.z⟩
   have ass:ai (Below w0.heap.size w0 (xd.setCell ⟨o6,(t126:Int).toNat,none⟩ (.slice vG eM.length ux))):=⟨by repeat (first|(with_reducible first|exact HB.z|apply eu|apply fh|apply aqW|refine lZ ?_ (Nat.le_trans HL.z YU.out)|refine lZ ?_ (aj.ge av.z)|refine lZ ?_ aqR.z|refine lZ ?_ vI.z)|exact HB.z)⟩
   generalize (xd.setCell ⟨o6,(t126:Int).toNat,none⟩ (.slice vG eM.length ux))=Ji at fX fY iJ iK mR ass ⊢
   have iQ:=fX
   have aa:=fY
   have bL:=iJ
   have av:=iK
   have HK:=mR
   have HB:=ass
   clear fX fY iJ iK mR ass
   obtain ⟨_,_,_,_⟩:=aqA aa
   obtain ⟨_,_⟩:=nE nt
   obtain ⟨_,_,_,_⟩:=aqA bL
   try go_wp2
   refine bodyPost_ret (results_cell_row rfl _ _ dG 26 #[.int .i64 t122,.slice (some ⟨o6,0,none⟩) t123.length wO] (0,0) _ rfl kZ Try.underlying26 rfl (by kernel_rfl)) rfl ?_
   exact ⟨_,eR,Kd.aZ (Kd.DF (aS (Kd.b6 (gS 1 (.slice (some ⟨o6,0,none⟩) t123.length wO) (gS 0 (.int .i64 t122) (tS iQ bL))) (fun _ hk=>hk.1)))) (fun k_ hk=>by first|exact ⟨(.inr (hk.1)),hk.2⟩|exact (.inr (hk))),aqy av.z,aG (aj.ge av.z) HB.z,aK HK.z⟩
  replace H:=bS H;obtain ⟨⟨t112,t113⟩,JI,H⟩:=H
  dsimp only at H
  obtain ⟨oH,rZ⟩:=nY (([0,t112]:List Int):List Int)
  replace H:(if t113.length < 5864062014805 then (some (t112,(t113 ++ [oH]),t104,t105)) else (none))=some (r1,r2,r3,r4):=rH rZ.z H
  replace H:=iS H;obtain ⟨c21,H⟩:=H
  have Z9:=k0 c21
  clear c21
  obtain ⟨ash,wJ⟩:=nY (t113 ++ [oH]:List (List Int))
  replace H:(some (t112,ash,t104,t105))=some (r1,r2,r3,r4):=rH wJ.z H
  simp only [Option.some.injEq,Prod.mk.injEq] at H
  obtain ⟨rfl,rfl,rfl,rfl⟩:=H
  go_enter Try.func96,Try.ntmps96
  go_wp2_with (first|(refine aqI (N:=3) rfl ?_;refine fu 3 #[.int .i64 fM,.slice jC eP.length jL] 26 ?_;intro aA hg nN bq hb;replace cS:=eL cS hg hb;replace HB:=k0 (dc (aG (aj.ge av.z) HB.z) hb);have aa:=k0 (bq);have aqF:=gW hg (dD (aK HK.z));have aqR:=k0 (Nat.le_trans jv.z aqF.z);replace HK:=k0 (aqB.trans (aK HK.z) (aqB.fO hb g none) (.inl rfl));have wF:=k0 ((by rw [hg];exact Nat.ne_of_lt (aj.lt (show aj w0 _ g aJ bQ bT from aqy av.z)):g ≠ aA));have dS:=k0 ((by rw [hg];exact Nat.ne_of_gt (aj.lt (show aj w0 _ g aJ bQ bT from aqy av.z)):aA ≠ g));replace av:=k0 (aj.below (aqy av.z) hb);clear hb bq hg)|(refine aqI (N:=4) rfl ?_;refine fu 4 #[.int .i64 0,.slice none 0 0] 26 ?_;intro dG hg asy bq hb;replace cS:=eL cS hg hb;replace HB:=k0 (dc (aG (aj.ge av.z) HB.z) hb);have bL:=k0 (bq);have ni:=gW hg (dD (aK HK.z));have vI:=k0 (Nat.le_trans jv.z ni.z);replace HK:=k0 (aqB.trans (aK HK.z) (aqB.fO hb g none) (.inl rfl));have gL:=nL hg aa;have wG:=nG gL;replace aa:=kB aa hb;have Dv:=k0 ((by rw [hg];exact Nat.ne_of_lt (aj.lt (show aj w0 _ g aJ bQ bT from aqy av.z)):g ≠ dG));have nt:=k0 ((by rw [hg];exact Nat.ne_of_gt (aj.lt (show aj w0 _ g aJ bQ bT from aqy av.z)):dG ≠ g));replace av:=k0 (aj.below (aqy av.z) hb);clear hb bq hg)|(refine aqz (f:=49) rfl ?_;refine gC (some 8) Try.func49 #[.pointer (some ⟨g,0,none⟩),.int .i64 40] ?_;(with_reducible refine (dK.calls g aJ bQ bT 40 t103 t104 t105 w0 _ ?aq ?au A3.z).mono ?_);(case aq=>exact aqy av.z);(case au=>exact aG (aj.ge av.z) HB.z);rintro e za ⟨rfl,hi,hb,hk⟩;refine ⟨_,rfl,?_⟩;replace cS:=k0 (Kd.aZ (Kd.lY (Kd.aZ (ok:=fun k_=>(((((sY k_∨w.heap.size≤k_))∧k_ ≠ g)∧k_ ≠ aA)∧k_ ≠ dG)) (aV cS.z) (fun k_ aqJ=>(⟨aqJ,aqJ.1.1.2⟩:_∧k_ ≠ g))) hk (fun _ h=>h.2)) (fun _ h=>h.1));replace aa:=kK hk aa dS;replace bL:=kK hk bL nt;replace HK:=k0 (aqB.trans (aK HK.z) hk (.inl rfl));replace HB:=k0 (hb);replace av:=k0 (hi);obtain ⟨_,_⟩:=nE gL;obtain ⟨_,_⟩:=nE dS;obtain ⟨_,_,_,_⟩:=aqA aa)|(refine aqz (f:=126) rfl ?_;refine gC (some 21) Try.func126 #[.agg #[.int .i64 fM,.slice jC eP.length jL]] ?_;(with_reducible refine (ir.calls k fM _ _ eP t112 t113 _ ?aq ?au JI.z).mono ?_);(case aq=>exact aC ((Kd.cI cS.z).2.2));(case au=>exact (Kd.cI cS.z).2.1);rintro e as9 ⟨ajs,rfl,aD,hb⟩;refine ⟨_,rfl,?_⟩;replace cS:=aqX cS (Kd.nw aD) hb;have pZ:=k0 (Kd.fT (Kd.DG (M:=fun k_=>(w.heap.size≤k_)) aD (dD (aK HK.z)) (fun k_ h_=>h_)) (dD (aK HK.z)));replace aa:=kB aa hb;replace bL:=kB bL hb;replace HK:=k0 (aqB.trans (aK HK.z) (aqB.fO hb g none) (.inl rfl));replace HB:=k0 (dc (aG (aj.ge av.z) HB.z) hb);replace av:=k0 (aj.below (aqy av.z) hb);obtain ⟨_,_,_,_⟩:=aqA aa;obtain ⟨C3,D3,rfl⟩:=Kd.dL pZ.z)|(refine aqI (N:=26) rfl ?_;refine Kd.gw (Kd.int .i64) _ 2 ?hg (N:=26) ?hd (xs:=([0,t112]:List Int)) (inner:=[.int .i64 0,.int .i64 t112]) (ok:=fun _=>True) (bw:=fun _=>True) ?hr ?hp (fun _ hk=>hk) trivial (Below.refl _ _) (Nat.le_refl _) (by simp) ?_;(case hd=>rfl);(case hg=>rfl);(case hr=>first|(go_simp;done)|(go_simp;rfl));(case hp=>exact (aH.one (show Kd.M (Kd.int .i64) _ _ _ 0 [.int .i64 0] from rfl) (aH.one (show Kd.M (Kd.int .i64) _ _ _ t112 [.int .i64 t112] from rfl) (aH.none _ _))));intro ajt Je jz hb bH bI;clear bH bI;(first|rw [← rZ.z] at jz|(simp only [Int.reduceToNat] at jz;rw [← rZ.z] at jz));replace cS:=aqX cS (Kd.cm jz) hb;replace pZ:=k0 (Kd.K8 (AZ pZ aa) (Kd.cm jz) hb);have Br:=k0 (Kd.cA (Kd.BK (M:=fun k_=>(w.heap.size≤k_)) jz (dD (aK HK.z)) (fun k_ h_=>h_)) (dD (aK HK.z)));replace aa:=kP (sO t112 C3 t113 D3 26) aa hb;replace bL:=kF bL hb;replace HK:=k0 (aqB.trans (aK HK.z) (aqB.fO hb g none) (.inl rfl));replace HB:=k0 (dc (aG (aj.ge av.z) HB.z) hb);replace av:=k0 (aj.below (show aj w0 ((as9.setCell ⟨aA,0,none⟩ (.int .i64 t112)).setCell ⟨aA,1,none⟩ (.slice C3 t113.length D3)) g aJ t104 t105 from aqy av.z) hb);clear hb jz;obtain ⟨xx,x_,rfl⟩:=Kd.cy Br.z)|((with_reducible refine ars (b:=.append) (xs:=#[.tmp 23,.tmp 27]) rfl ?_);at_builtin;refine Kd.asc (Kd.slice 2 (Kd.int .i64)) w.heap.size rfl (.tmp 23) (.tmp 27) 24 29 (.slice none 0 0) 24 rfl Try.underlying24 o_ rfl (by decide) (by omega) (.slice C3 t113.length D3) t113 oH [.slice xx oH.length x_] (fun k_=>(w.heap.size≤k_)) (fun k_=>some k_=(.slice xx oH.length x_:Value).ownBlock) rfl rfl ?aP (fun k_ aqJ=>((Kd.aqM (ok':=fun k_=>((fun k_=>(w.heap.size≤k_))) k_∧some k_ ≠ (.slice C3 t113.length D3:Value).ownBlock) (Kd.aq' (Br.z) (Kd.fH pZ.z) (by decide)) (fun k_ hk=>⟨hk.1.1,hk.2⟩))).1 k_ aqJ.symm) ?aF ?aO (Below.refl _ _) ?aS ?aL ?_;(case aP=>exact Kd.lD (Kd.aqM (Kd.oV rfl (Kd.aqM (ok':=fun k_=>((fun k_=>(w.heap.size≤k_))) k_∧some k_ ≠ (.slice C3 t113.length D3:Value).ownBlock) (Kd.aq' (Br.z) (Kd.fH pZ.z) (by decide)) (fun k_ hk=>⟨hk.1.1,hk.2⟩))) (fun _ h_=>h_)));(case aF=>exact (fun k_ hk=>(Nat.le_trans (dD (aK HK.z)) hk)));(case aO=>exact (aS (Kd.b6 pZ.z (fun k_ hk=>⟨hk.1.1,fun e_=>hk.2 e_⟩))));(case aS=>exact (dD (aK HK.z)));(case aL=>have:=Z9.out;omega);intro OG zc ho hb hg bg;rw [← wJ.z] at ho;replace cS:=k0 (Kd.abm (ok:=(fun k_=>(sY k_∨w.heap.size≤k_)∧some k_ ≠ (.slice xx oH.length x_:Value).ownBlock∧k_ ≠ g∧k_ ≠ aA∧k_ ≠ dG)) (aV (Kd.aZ cS.z (fun _ hk=>⟨⟨hk.1.1.1.1.1,⟨hk.2,⟨hk.1.1.1.1.2,⟨hk.1.1.1.2,hk.1.1.2⟩⟩⟩⟩,hk.1.2⟩))) hg bg);replace aa:=k0 (aq2 (aB aa.z) hg (Kd.arl pZ.z aa.z (by decide)));replace bL:=k0 (aq2 (aB bL.z) hg (Kd.arl pZ.z bL.z (by decide)));replace HB:=k0 (xS (aG (aj.ge av.z) HB.z) HL.z hb);replace av:=k0 (aj.grown (aqy av.z) hg (aj.AA av.z pZ.z (by decide)));replace HK:=k0 (aqB.trans (aK HK.z) (aqB.aso hg g) (Kd.zM pZ.z));have oR:=k0 (ho);clear pZ Br;clear ho hb hg bg;obtain ⟨xy,ya,rfl⟩:=Kd.dL oR.z;obtain ⟨_,_,_,_⟩:=aqA aa;obtain ⟨_,_⟩:=nE nt;obtain ⟨_,_,_,_⟩:=aqA bL))
  refine bodyPost_ret (results_cell_row rfl _ _ dG 26 #[.int .i64 t112,.slice xy ash.length ya] (0,0) _ rfl kZ Try.underlying26 rfl (by kernel_rfl)) rfl ?_
  exact ⟨_,eR,Kd.aZ (Kd.DF (aS (Kd.b6 (Kd.oW (p:=⟨dG,1,none⟩) (Kd.oW (p:=⟨dG,0,none⟩) (Kd.oW (p:=⟨aA,1,none⟩) (Kd.xO (tS oR aa) bL.z (by decide)) (fun _ hk=>hk.1.2) (.slice xy ash.length ya)) (fun _ hk=>hk.2) (.int .i64 t112)) (fun _ hk=>hk.2) (.slice xy ash.length ya)) (fun _ hk=>hk.1.1)))) (fun k_ hk=>by first|exact ⟨(.inr (hk.1)),hk.2⟩|exact (.inr (hk))),aqy av.z,aG (aj.ge av.z) HB.z,aK HK.z⟩
 obtain ⟨Jy,KW⟩:=nY (([0,9,wrap64 (fM - 1)]:List Int):List Int)
 replace H:((jo.f aJ t104 t105 Jy).bind fun s8=>(some (s8.1,eP,s8.2.1,s8.2.2)))=some (r1,r2,r3,r4):=rH KW.z H
 replace H:=bS H;obtain ⟨⟨t109,t110,t111⟩,A5,H⟩:=H
 dsimp only at H
 simp only [Option.some.injEq,Prod.mk.injEq] at H
 obtain ⟨rfl,rfl,rfl,rfl⟩:=H
 go_enter Try.func96,Try.ntmps96
 go_wp2_with (first|(refine aqI (N:=3) rfl ?_;refine fu 3 #[.int .i64 fM,.slice jC eP.length jL] 26 ?_;intro aA hg w6 bq hb;replace cS:=eL cS hg hb;replace HB:=k0 (dc (aG (aj.ge av.z) HB.z) hb);have aa:=k0 (bq);have aqF:=gW hg (dD (aK HK.z));have aqR:=k0 (Nat.le_trans jv.z aqF.z);replace HK:=k0 (aqB.trans (aK HK.z) (aqB.fO hb g none) (.inl rfl));have wF:=k0 ((by rw [hg];exact Nat.ne_of_lt (aj.lt (show aj w0 _ g aJ bQ bT from aqy av.z)):g ≠ aA));have dS:=k0 ((by rw [hg];exact Nat.ne_of_gt (aj.lt (show aj w0 _ g aJ bQ bT from aqy av.z)):aA ≠ g));replace av:=k0 (aj.below (aqy av.z) hb);clear hb bq hg)|(refine aqI (N:=4) rfl ?_;refine fu 4 #[.int .i64 0,.slice none 0 0] 26 ?_;intro dG hg w7 bq hb;replace cS:=eL cS hg hb;replace HB:=k0 (dc (aG (aj.ge av.z) HB.z) hb);have bL:=k0 (bq);have ni:=gW hg (dD (aK HK.z));have vI:=k0 (Nat.le_trans jv.z ni.z);replace HK:=k0 (aqB.trans (aK HK.z) (aqB.fO hb g none) (.inl rfl));have gL:=nL hg aa;have wG:=nG gL;replace aa:=kB aa hb;have Dv:=k0 ((by rw [hg];exact Nat.ne_of_lt (aj.lt (show aj w0 _ g aJ bQ bT from aqy av.z)):g ≠ dG));have nt:=k0 ((by rw [hg];exact Nat.ne_of_gt (aj.lt (show aj w0 _ g aJ bQ bT from aqy av.z)):dG ≠ g));replace av:=k0 (aj.below (aqy av.z) hb);clear hb bq hg)|(refine aqz (f:=49) rfl ?_;refine gC (some 8) Try.func49 #[.pointer (some ⟨g,0,none⟩),.int .i64 40] ?_;(with_reducible refine (dK.calls g aJ bQ bT 40 t103 t104 t105 w0 _ ?aq ?au A3.z).mono ?_);(case aq=>exact aqy av.z);(case au=>exact aG (aj.ge av.z) HB.z);rintro e w8 ⟨rfl,hi,hb,hk⟩;refine ⟨_,rfl,?_⟩;replace cS:=k0 (Kd.aZ (Kd.lY (Kd.aZ (ok:=fun k_=>(((((sY k_∨w.heap.size≤k_))∧k_ ≠ g)∧k_ ≠ aA)∧k_ ≠ dG)) (aV cS.z) (fun k_ aqJ=>(⟨aqJ,aqJ.1.1.2⟩:_∧k_ ≠ g))) hk (fun _ h=>h.2)) (fun _ h=>h.1));replace aa:=kK hk aa dS;replace bL:=kK hk bL nt;replace HK:=k0 (aqB.trans (aK HK.z) hk (.inl rfl));replace HB:=k0 (hb);replace av:=k0 (hi);obtain ⟨_,_⟩:=nE gL;obtain ⟨_,_⟩:=nE dS;obtain ⟨_,_,_,_⟩:=aqA aa)|(refine aqI (N:=15) rfl ?_;refine Kd.gw (Kd.int .i64) _ 2 ?hg (N:=15) ?hd (xs:=([0,9,wrap64 (fM - 1)]:List Int)) (inner:=[.int .i64 0,.int .i64 9,.int .i64 (wrap64 (fM - 1))]) (ok:=fun _=>True) (bw:=fun _=>True) ?hr ?hp (fun _ hk=>hk) trivial (Below.refl _ _) (Nat.le_refl _) (by simp) ?_;(case hd=>rfl);(case hg=>rfl);(case hr=>first|(go_simp;done)|(go_simp;rfl));(case hp=>exact (aH.one (show Kd.M (Kd.int .i64) _ _ _ 0 [.int .i64 0] from rfl) (aH.one (show Kd.M (Kd.int .i64) _ _ _ 9 [.int .i64 9] from rfl) (aH.one (show Kd.M (Kd.int .i64) _ _ _ (wrap64 (fM - 1)) [.int .i64 (wrap64 (fM - 1))] from rfl) (aH.none _ _)))));intro vq oB om hb bH bI;clear bH bI;(first|rw [← KW.z] at om|(simp only [Int.reduceToNat] at om;rw [← KW.z] at om));replace cS:=aqX cS (Kd.cm om) hb;have lX:=k0 (Kd.cA (Kd.BK (M:=fun k_=>(w.heap.size≤k_)) om (dD (aK HK.z)) (fun k_ h_=>h_)) (dD (aK HK.z)));replace aa:=kB aa hb;replace bL:=kB bL hb;replace HK:=k0 (aqB.trans (aK HK.z) (aqB.fO hb g none) (.inl rfl));replace HB:=k0 (dc (aG (aj.ge av.z) HB.z) hb);replace av:=k0 (aj.below (aqy av.z) hb);clear hb om;obtain ⟨jD,jM,rfl⟩:=Kd.cy lX.z)|(refine aqz (f:=51) rfl ?_;refine gC (some 16) Try.func51 #[.pointer (some ⟨g,0,none⟩),.slice jD Jy.length jM] ?_;(with_reducible refine (jo.calls g aJ t104 t105 _ _ Jy t109 t110 t111 w0 _ ?aq ?au ?cr ?dw ?pF A5.z).mono ?_);(case aq=>exact aqy av.z);(case au=>exact aG (aj.ge av.z) HB.z);(case cr=>exact aC ((Kd.aqP lX.z).2.2));(case dw=>exact (Kd.aqP lX.z).2.1);(case pF=>exact z4 (aj.tE av.z lX.z (by decide)));rintro e pH ⟨rfl,hi,hb,hk⟩;refine ⟨_,rfl,?_⟩;replace cS:=k0 (Kd.aZ (Kd.lY (Kd.aZ (ok:=fun k_=>((((((sY k_∨w.heap.size≤k_))∧k_ ≠ g)∧k_ ≠ aA)∧k_ ≠ dG)∧some k_ ≠ (.slice jD Jy.length jM:Value).ownBlock)) (aV cS.z) (fun k_ aqJ=>(⟨aqJ,aqJ.1.1.1.2⟩:_∧k_ ≠ g))) hk (fun _ h=>h.2)) (fun _ h=>h.1));replace aa:=kK hk aa dS;replace bL:=kK hk bL nt;replace lX:=k0 (Kd.aqM (Kd.uo (aj.apart (show aj w0 _ g aJ t104 t105 from aqy av.z) (aR lX.z) (by decide)) hk (fun _ h=>h.2)) (fun _ h=>h.1));replace HK:=k0 (aqB.trans (aK HK.z) hk (.inl rfl));replace HB:=k0 (hb);replace av:=k0 (hi);obtain ⟨_,_,_,_⟩:=aqA aa;obtain ⟨_,_⟩:=nE nt;obtain ⟨_,_,_,_⟩:=aqA bL))
 refine bodyPost_ret (results_cell_row rfl _ _ dG 26 #[.int .i64 t109,.slice jC eP.length jL] (0,0) _ rfl kZ Try.underlying26 rfl (by kernel_rfl)) rfl ?_
 exact ⟨_,eR,aV (Kd.aZ (Kd.je (p:=⟨dG,1,none⟩) (Kd.je (p:=⟨dG,0,none⟩) (Kd.je (p:=⟨aA,0,none⟩) (Kd.aZ (Kd.aZ cS.z (fun k_ hk=>(⟨hk,hk.1.1.2⟩:_∧k_ ≠ aA))) (fun k_ hk=>(⟨hk,hk.1.1.2⟩:_∧k_ ≠ dG))) (fun _ hk=>hk.1.2) (.int .i64 t109)) (fun _ hk=>hk.2) (.int .i64 t109)) (fun _ hk=>hk.2) (.slice jC eP.length jL)) (fun _ hk=>hk.1.1.1.1.1.1)),aqy av.z,aG (aj.ge av.z) HB.z,aK HK.z⟩
/-! ### F127: function 127 -/
def zo.f  : Option (List ByteArray):=some (([(⟨#[112,111,105,110,116]⟩:ByteArray),(⟨#[101,100,103,101]⟩:ByteArray),(⟨#[108,111,111,112]⟩:ByteArray),(⟨#[98,111,117,113,117,101,116]⟩:ByteArray),(⟨#[116,104,101,116,97]⟩:ByteArray),(⟨#[100,117,109,98,98,101,108,108]⟩:ByteArray),(⟨#[116,114,105,97,110,103,108,101]⟩:ByteArray),(⟨#[115,113,117,97,114,101]⟩:ByteArray),(⟨#[112,101,110,116,97,103,111,110]⟩:ByteArray),(⟨#[115,116,97,114]⟩:ByteArray),(⟨#[100,105,97,109,111,110,100]⟩:ByteArray),(⟨#[116,101,116,114,97,104,101,100,114,111,110]⟩:ByteArray),(⟨#[112,114,105,115,109]⟩:ByteArray),(⟨#[104,111,117,115,101,115]⟩:ByteArray)]:List ByteArray))
theorem zo.calls  (r : List ByteArray) (w : World) (h : zo.f  = some r) :
  Calls Try.prog 127 #[] w fun e w'=>∃ cR:Value,e=.returned (cR)∧Kd.R Kd.string 9 w' w.heap.size (fun _=>True) cR r∧Below w.heap.size w w':=by
 have HB:=k0 (Below.refl w.heap.size w)
 unfold zo.f at h
 have H:=h
 clear h
 obtain ⟨mq,kQ⟩:=nY (([(⟨#[112,111,105,110,116]⟩:ByteArray),(⟨#[101,100,103,101]⟩:ByteArray),(⟨#[108,111,111,112]⟩:ByteArray),(⟨#[98,111,117,113,117,101,116]⟩:ByteArray),(⟨#[116,104,101,116,97]⟩:ByteArray),(⟨#[100,117,109,98,98,101,108,108]⟩:ByteArray),(⟨#[116,114,105,97,110,103,108,101]⟩:ByteArray),(⟨#[115,113,117,97,114,101]⟩:ByteArray),(⟨#[112,101,110,116,97,103,111,110]⟩:ByteArray),(⟨#[115,116,97,114]⟩:ByteArray),(⟨#[100,105,97,109,111,110,100]⟩:ByteArray),(⟨#[116,101,116,114,97,104,101,100,114,111,110]⟩:ByteArray),(⟨#[112,114,105,115,109]⟩:ByteArray),(⟨#[104,111,117,115,101,115]⟩:ByteArray)]:List ByteArray):List ByteArray)
 replace H:(some mq)=some r:=rH kQ.z H
 obtain rfl:=Option.some.inj H
 go_enter Try.func127,Try.ntmps127
 go_wp2_with (first|(refine aqI (N:=1) rfl ?_;refine Kd.gw Kd.string _ 9 ?hg (N:=1) ?hd (xs:=([(⟨#[112,111,105,110,116]⟩:ByteArray),(⟨#[101,100,103,101]⟩:ByteArray),(⟨#[108,111,111,112]⟩:ByteArray),(⟨#[98,111,117,113,117,101,116]⟩:ByteArray),(⟨#[116,104,101,116,97]⟩:ByteArray),(⟨#[100,117,109,98,98,101,108,108]⟩:ByteArray),(⟨#[116,114,105,97,110,103,108,101]⟩:ByteArray),(⟨#[115,113,117,97,114,101]⟩:ByteArray),(⟨#[112,101,110,116,97,103,111,110]⟩:ByteArray),(⟨#[115,116,97,114]⟩:ByteArray),(⟨#[100,105,97,109,111,110,100]⟩:ByteArray),(⟨#[116,101,116,114,97,104,101,100,114,111,110]⟩:ByteArray),(⟨#[112,114,105,115,109]⟩:ByteArray),(⟨#[104,111,117,115,101,115]⟩:ByteArray)]:List ByteArray)) (inner:=[.string (⟨#[112,111,105,110,116]⟩:ByteArray),.string (⟨#[101,100,103,101]⟩:ByteArray),.string (⟨#[108,111,111,112]⟩:ByteArray),.string (⟨#[98,111,117,113,117,101,116]⟩:ByteArray),.string (⟨#[116,104,101,116,97]⟩:ByteArray),.string (⟨#[100,117,109,98,98,101,108,108]⟩:ByteArray),.string (⟨#[116,114,105,97,110,103,108,101]⟩:ByteArray),.string (⟨#[115,113,117,97,114,101]⟩:ByteArray),.string (⟨#[112,101,110,116,97,103,111,110]⟩:ByteArray),.string (⟨#[115,116,97,114]⟩:ByteArray),.string (⟨#[100,105,97,109,111,110,100]⟩:ByteArray),.string (⟨#[116,101,116,114,97,104,101,100,114,111,110]⟩:ByteArray),.string (⟨#[112,114,105,115,109]⟩:ByteArray),.string (⟨#[104,111,117,115,101,115]⟩:ByteArray)]) (ok:=fun _=>True) (bw:=fun _=>True) ?hr ?hp (fun _ hk=>hk) trivial (Below.refl _ _) (Nat.le_refl _) (by simp) ?_;(case hd=>rfl);(case hg=>rfl);(case hr=>first|(go_simp;done)|(go_simp;rfl));(case hp=>exact (aH.one (show Kd.M Kd.string _ _ _ (⟨#[112,111,105,110,116]⟩:ByteArray) [.string (⟨#[112,111,105,110,116]⟩:ByteArray)] from rfl) (aH.one (show Kd.M Kd.string _ _ _ (⟨#[101,100,103,101]⟩:ByteArray) [.string (⟨#[101,100,103,101]⟩:ByteArray)] from rfl) (aH.one (show Kd.M Kd.string _ _ _ (⟨#[108,111,111,112]⟩:ByteArray) [.string (⟨#[108,111,111,112]⟩:ByteArray)] from rfl) (aH.one (show Kd.M Kd.string _ _ _ (⟨#[98,111,117,113,117,101,116]⟩:ByteArray) [.string (⟨#[98,111,117,113,117,101,116]⟩:ByteArray)] from rfl) (aH.one (show Kd.M Kd.string _ _ _ (⟨#[116,104,101,116,97]⟩:ByteArray) [.string (⟨#[116,104,101,116,97]⟩:ByteArray)] from rfl) (aH.one (show Kd.M Kd.string _ _ _ (⟨#[100,117,109,98,98,101,108,108]⟩:ByteArray) [.string (⟨#[100,117,109,98,98,101,108,108]⟩:ByteArray)] from rfl) (aH.one (show Kd.M Kd.string _ _ _ (⟨#[116,114,105,97,110,103,108,101]⟩:ByteArray) [.string (⟨#[116,114,105,97,110,103,108,101]⟩:ByteArray)] from rfl) (aH.one (show Kd.M Kd.string _ _ _ (⟨#[115,113,117,97,114,101]⟩:ByteArray) [.string (⟨#[115,113,117,97,114,101]⟩:ByteArray)] from rfl) (aH.one (show Kd.M Kd.string _ _ _ (⟨#[112,101,110,116,97,103,111,110]⟩:ByteArray) [.string (⟨#[112,101,110,116,97,103,111,110]⟩:ByteArray)] from rfl) (aH.one (show Kd.M Kd.string _ _ _ (⟨#[115,116,97,114]⟩:ByteArray) [.string (⟨#[115,116,97,114]⟩:ByteArray)] from rfl) (aH.one (show Kd.M Kd.string _ _ _ (⟨#[100,105,97,109,111,110,100]⟩:ByteArray) [.string (⟨#[100,105,97,109,111,110,100]⟩:ByteArray)] from rfl) (aH.one (show Kd.M Kd.string _ _ _ (⟨#[116,101,116,114,97,104,101,100,114,111,110]⟩:ByteArray) [.string (⟨#[116,101,116,114,97,104,101,100,114,111,110]⟩:ByteArray)] from rfl) (aH.one (show Kd.M Kd.string _ _ _ (⟨#[112,114,105,115,109]⟩:ByteArray) [.string (⟨#[112,114,105,115,109]⟩:ByteArray)] from rfl) (aH.one (show Kd.M Kd.string _ _ _ (⟨#[104,111,117,115,101,115]⟩:ByteArray) [.string (⟨#[104,111,117,115,101,115]⟩:ByteArray)] from rfl) (aH.none _ _))))))))))))))));intro tM w1 vV hb bH bI;clear bH bI;(first|rw [← kQ.z] at vV|(simp only [Int.reduceToNat] at vV;rw [← kQ.z] at vV));have mC:=k0 (Kd.cA vV (aqG bl));replace HB:=bW hb;clear hb vV))
 go_ret
 exact ⟨_,eR,aR mC.z,bl⟩
/-! ### F61: function 61 -/
def aq4.f (a0:Int) (a1:Int) (a2:Int):Option (Bool):=if a0 ≥ a1 then (some (decide (a0≤a2))) else (some false)
theorem aq4.calls (a0 : Int) (a1 : Int) (a2 : Int) (r : Bool) (w : World) (h : aq4.f a0 a1 a2 = some r) :
  Calls Try.prog 61 #[.int .i64 a0,.int .i64 a1,.int .i64 a2] w fun e w'=>e=.returned (.bool r)∧eX w w':=by
 unfold aq4.f at h
 have H:=h
 clear h
 replace H:=iC H;obtain ⟨ej,H⟩|⟨ej,H⟩:=H
 case inl =>
  obtain rfl:=Option.some.inj H
  go_enter Try.func61,Try.ntmps61
  go_wp2
  go_ret
  exact ⟨rs,dW⟩
 obtain rfl:=Option.some.inj H
 go_enter Try.func61,Try.ntmps61
 go_wp2
 go_ret
 exact ⟨rs,dW⟩
end Go.Proofs.Ytapnggjaeehpdaa.A
/- Set with little white space, by a program. -/
