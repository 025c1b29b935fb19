/- Go's calls come to what the Lean functions say. Condition of each: that the Lean function answers. -/
import Derived.Test.YtapnggjaeehpdaaBx0
import Derived.Test.YtapnggjaeehpdaaBx8
import Derived.Test.YtapnggjaeehpdaaBx23
namespace Go.Proofs.Ytapnggjaeehpdaa.B
open Go.RowKit Go.Proofs.bz.dI Go.Proofs.bz.iY Go.Proofs.bz.jn
attribute [local go_sem] max2_int min2_int max_two min_two max_three min_three max_four min_four
set_option linter.unusedVariables false
set_option linter.unusedSimpArgs false
set_option maxHeartbeats 8000000
set_option maxRecDepth 100000
/-! ### F45: function 45 -/
def BH.f (k:Nat) (as0:Int) (ak:List (List Int)):Option (List Int × Int):=(kQ.f k as0 ak).bind fun t102=>(if t102=true then ((BI.f k as0 ak).bind fun t103=>(some (t103,0))) else (some (([]:List Int),1)))
theorem BH.calls (k : Nat) (as0 : Int) (bu : Option Addr) (bq : Nat) (ak : List (List Int)) (r1 : List Int) (r2 : Int) (w : World) (dy : Kd.C (Kd.slice 2 (Kd.int .i64)) w bu ak.length ak) (ey : ak.length ≤ bq) (h : BH.f k as0 ak = some (r1, r2)) :
  Calls Try.prog 45 #[.agg #[.int .i64 as0,.slice bu ak.length bq]] w fun e w'=>∃ ati:Value,e=.returned (.tuple #[ati,.int .i64 r2])∧Kd.R (Kd.int .i64) 2 w' w.heap.size (fun _=>True) ati r1∧Below w.heap.size w w':=by
 have gV:=Try.underlying26
 have dJ:=k0 dy
 have iK:=k0 ey
 clear dy ey
 have HB:=k0 (Below.refl w.heap.size w)
 unfold BH.f at h
 have H:=h
 clear h
 replace H:=bS H;obtain ⟨t102,A2,H⟩:=H
 cases t102
 case false =>
  replace H:=iF H
  obtain ⟨rfl,rfl⟩:=mT H
  go_enter Try.func45,Try.ntmps45
  go_wp2_with (first|(refine aX (N:=1) rfl ?_;refine dL 1 #[.int .i64 as0,.slice bu ak.length bq] 26 bl ?_;intro ay pT aa bn HB;have cG:=bn;obtain ⟨_,_,_,_⟩:=as9 aa)|(refine aT (f:=66) rfl ?_;refine gC (some 5) Try.func66 #[.agg #[.int .i64 as0,.slice bu ak.length bq]] ?_;(with_reducible refine (kQ.calls k as0 _ _ ak false _ ?av ?ax A2.z).mono ?_);(case av=>exact aC (Kd.bL dJ.z HB.z));(case ax=>exact iK.z);rintro e auL ⟨rfl,hb⟩;refine ⟨_,rfl,?_⟩;replace aa:=kB aa hb;replace HB:=bW hb))
  go_ret2
  exact ⟨_,eR,by first|exact Kd.rZ _ _ _ _ _|exact Kd.xR _ _ _ _ _|exact Kd.xX _ _ _ _ _|exact Kd.xV _ _ _ _ _|exact Kd.xW _ _ _ _ _,bl⟩
 replace H:=iT H
 replace H:=bS H;obtain ⟨t103,A4,H⟩:=H
 obtain ⟨rfl,rfl⟩:=mT H
 go_enter Try.func45,Try.ntmps45
 go_wp2_with (first|(refine aX (N:=1) rfl ?_;refine dL 1 #[.int .i64 as0,.slice bu ak.length bq] 26 bl ?_;intro ay w5 aa bn HB;have cG:=bn;obtain ⟨_,_,_,_⟩:=as9 aa)|(refine aT (f:=66) rfl ?_;refine gC (some 5) Try.func66 #[.agg #[.int .i64 as0,.slice bu ak.length bq]] ?_;(with_reducible refine (kQ.calls k as0 _ _ ak true _ ?av ?ax A2.z).mono ?_);(case av=>exact aC (Kd.bL dJ.z HB.z));(case ax=>exact iK.z);rintro e w7 ⟨rfl,hb⟩;refine ⟨_,rfl,?_⟩;replace aa:=kB aa hb;replace HB:=bW hb;obtain ⟨_,_,_,_⟩:=as9 aa)|(refine aT (f:=53) rfl ?_;refine gC (some 8) Try.func53 #[.agg #[.int .i64 as0,.slice bu ak.length bq]] ?_;(with_reducible refine (BI.calls k as0 _ _ ak t103 _ ?av ?ax A4.z).mono ?_);(case av=>exact aC (Kd.bL dJ.z HB.z));(case ax=>exact iK.z);rintro e w9 ⟨xj,rfl,as2,hb⟩;refine ⟨_,rfl,?_⟩;have jf:=k0 (Kd.cg as2 (as8 bl));replace aa:=kB aa hb;replace HB:=bW hb))
 go_ret2
 exact ⟨_,eR,aR jf.z,bl⟩
/-! ### F46: function 46 -/
mutual
def jQ.l0 : Nat → Int → List Int → List Int → Int → Option (List Int)
 | 0,_,_,_,_=>none
 | k+1,x0,x1,x5,x6=>if x6 < (x1.length:Int) then (if 0≤x6 then (if x0=0 then (none) else (if x5.length < 17592186044416 then (jQ.l0 k x0 x1 (x5 ++ [Int.tmod (wrap64 ((Int.tmod (rd x1 x6) x0)+x0)) x0]) (wrap64 (x6+1))) else (none))) else (none)) else (jQ.l1 k x5)
def jQ.l1 : Nat → List Int → Option (List Int)
 | 0,_=>none
 | k+1,x5=>if (x5.length:Int) > 0 then (if 0≤(wrap64 ((x5.length:Int) - 1)) then (if (wrap64 ((x5.length:Int) - 1)) < (x5.length:Int) then (if (rd x5 (wrap64 ((x5.length:Int) - 1)))=0 then (if (wrap64 ((x5.length:Int) - 1))≤(x5.length:Int) then (jQ.l1 k (x5.take ((wrap64 ((x5.length:Int) - 1)):Int).toNat)) else (none)) else (some x5)) else (none)) else (none)) else (some x5)
end
def jQ.f (k:Nat) (a0:Int) (l1:List Int):Option (List Int):=jQ.l0 k a0 l1 (([]:List Int)) 0
theorem jQ.calls (k : Nat) (a0 : Int) (A1 : Option Addr) (c1 : Nat) (l1 : List Int) (r : List Int) (w : World) (gl : Kd.C (Kd.int .i64) w A1 l1.length l1) (iQ : l1.length ≤ c1) (h : jQ.f k a0 l1 = some r) :
  Calls Try.prog 46 #[.int .i64 a0,.slice A1 l1.length c1] w fun e w'=>∃ ati:Value,e=.returned (ati)∧Kd.R (Kd.int .i64) 2 w' w.heap.size (fun _=>True) ati r∧Below w.heap.size w w':=by
 have iM:=k0 gl
 have yE:=k0 iQ
 clear gl iQ
 have HB:=k0 (Below.refl w.heap.size w)
 unfold jQ.f at h
 have H:=h
 clear h
 obtain ⟨atN,gH⟩:=nY (([]:List Int):List Int)
 replace H:(jQ.l0 k a0 l1 atN 0)=some r:=rH gH.z H
 have H':=k0 H
 clear H
 go_enter Try.func46,Try.ntmps46
 go_wp2_with (first|(refine aX (N:=7) rfl ?_;(try (refine at2 (by rfl) ?_;dsimp only));refine jM 2 (N:=7) (xs:=([]:List Int)) (inner:=[]) (aJ.none _ _) ?_;intro nO w3 fM hb bR atf;clear bR atf;(first|rw [← gH.z] at fM|(simp only [Int.reduceToNat] at fM;rw [← gH.z] at fM));have eV:=k0 (Kd.cg fM (as8 bl));replace HB:=bW hb;clear hb fM))
 go_loopg [5,6] k (fun kq v5 v6 w'=>∃ (aD:List Int) (as1:Int),v6=.int .i64 as1∧af (jQ.l0 kq a0 l1 aD as1=some r)∧af (kq≤k)∧af (Kd.R (Kd.int .i64) 2 w' w.heap.size (fun _=>True) v5 aD)∧af (Below w.heap.size w w'))
 case atStart=>exact ⟨(atN),(0),rs,H',⟨Nat.le_refl _⟩,⟨aR (eV.z)⟩,⟨bl⟩⟩
 case round =>
  clear H'
  obtain ⟨aD,as1,rfl,HA,as3,aq,HB⟩:=hrel
  cases gk with
  | zero=>exact absurd HA.z (by simp [jQ.l0])
  | succ k1 =>
   have H:=HA.z
   clear HA
   simp only [jQ.l0] at H
   replace H:=iC H;obtain ⟨gJ,H⟩|⟨gJ,H⟩:=H
   case inl =>
    have H':=k0 H
    clear H
    go_wp2
    go_loopg [5] k1 (fun kq v5 w'=>∃ (bg:List Int),af (jQ.l1 kq bg=some r)∧af (kq≤k1)∧af (Kd.R (Kd.int .i64) 2 w' w.heap.size (fun _=>True) v5 bg)∧af (Below w.heap.size w w'))
    case atStart=>exact ⟨(aD),H',⟨Nat.le_refl _⟩,⟨aR (aq.z)⟩,⟨bl⟩⟩
    case round =>
     clear H'
     obtain ⟨bg,HA,bw,aq,HB⟩:=hrel
     cases gk with
     | zero=>exact absurd HA.z (by simp [jQ.l1])
     | succ k2 =>
      have H:=HA.z
      clear HA
      simp only [jQ.l1] at H
      by_cases c10:(bg.length:Int) > 0
      case neg =>
       rw [if_neg c10] at H
       have iw:=decide_eq_false c10
       have Al:decide (0 < bg.length)=false:=decide_eq_false (by omega)
       clear c10
       obtain rfl:=Option.some.inj H
       obtain ⟨vt,uz,rfl⟩:=Kd.b9 aq.z
       go_wp2
       go_ret
       exact ⟨_,eR,aR aq.z,bl⟩
      rw [if_pos c10] at H
      have iw:=decide_eq_true c10
      have Al:decide (0 < bg.length)=true:=decide_eq_true (by omega)
      clear c10
      obtain ⟨qf,AH⟩:∃ j_:Int,(wrap64 ((bg.length:Int) - 1))=j_:=⟨_,rfl⟩
      replace H:(if 0≤(qf) then (if (qf) < (bg.length:Int) then (if (rd bg (qf))=0 then (if (qf)≤(bg.length:Int) then (jQ.l1 k2 (bg.take ((qf):Int).toNat)) else (none)) else (some bg)) else (none)) else (none))=some r:=by first|(rw [AH] at H;exact H)|(simp only [AH] at H ⊢;exact H)
      have ap':(IntKind.i64.wrap ((bg.length:Int) - 1))=qf:=(bp _).trans AH
      replace H:=iS H;obtain ⟨c12,H⟩:=H
      have pg:=decide_eq_true c12
      clear c12
      replace H:=iS H;obtain ⟨c13,H⟩:=H
      have qF:=decide_eq_true c13
      clear c13
      replace H:=iE H;obtain ⟨c14,ov,El,H⟩|⟨ov,El,H⟩:=H
      case inl =>
       obtain rfl:=Option.some.inj H
       obtain ⟨I5,Gj,rfl⟩:=Kd.b9 aq.z
       have ia:0≤((qf):Int):=oD
       have ic:(qf) < (bg.length:Int):=oD
       obtain ⟨ux,e108,jH⟩:=Kd.bK (Kd.bD aq.z).2.2 (qf) ia ic
       cases e108
       replace ia:=eT ia
       replace ic:=eT ic
       go_wp2
       go_ret
       exact ⟨_,by first|rfl|(simp [kG,kH]<;>rfl)|(simp only [← AH];first|rfl|(simp [kG,kH]<;>rfl))|(simp [*,kG,kH]<;>rfl),aR aq.z,bl⟩
      replace H:=iS H;obtain ⟨c15,H⟩:=H
      have qG:=eq_true c15
      have Em:=decide_eq_true c15
      clear c15
      obtain ⟨xB,yN⟩:=nY (bg.take ((qf):Int).toNat:List Int)
      replace H:(jQ.l1 k2 xB)=some r:=rH yN.z H
      have H':=k0 H
      clear H
      obtain ⟨al8,ae0,rfl⟩:=Kd.b9 aq.z
      have ia:0≤((qf):Int):=oD
      have ic:(qf) < (bg.length:Int):=oD
      obtain ⟨ux,e108,jH⟩:=Kd.bK (Kd.bD aq.z).2.2 (qf) ia ic
      cases e108
      replace ia:=eT ia
      replace ic:=eT ic
      have QL:((qf):Int)≤((bg.length:Int):Int):=oD
      obtain ⟨i017,Xd,_,ahk,_⟩:=info_parts ju
      have agP:=UZ (P:=Try.prog) 29 2 .i64 Try.underlying29 Xd (some ux) bg.length ae0 (qf) oD QL (Kd.bD aq.z).2.1
      have Kp:=Kd.acG (m:=((qf):Int).toNat) aq.z (by omega)
      have Yb:xB.length=((qf):Int).toNat:=(by rw [yN.z,List.length_take];omega)
      rw [← yN.z] at Kp
      rw [← Yb] at Kp agP
      clear Yb Xd ahk aq
      have BU:=k0 Kp
      clear Kp
      replace QL:=eT QL
      go_wp2
      first|go_roundg k2|(simp only [← AH];go_roundg k2)
      case measure=>have:=as3.z;have:=bw.z;omega
      case rel=>exact ⟨(xB),(by first|exact H'|(rw [AH];exact H')),⟨by have:=as3.z;have:=bw.z;omega⟩,⟨aR (BU.z)⟩,⟨bl⟩⟩
   replace H:=iS H;obtain ⟨c6,H⟩:=H
   have iP:=decide_eq_true c6
   clear c6
   by_cases c7:a0=0
   case neg =>
    rw [if_neg c7] at H
    have pn:=beq_eq_false_iff_ne.mpr c7
    have au5:=bne_iff_ne.mpr c7
    replace H:=iS H;obtain ⟨c8,H⟩:=H
    have ab':=k0 c8
    clear c8
    obtain ⟨Bv,xS⟩:=nY (aD ++ [Int.tmod (wrap64 ((Int.tmod (rd l1 as1) a0)+a0)) a0]:List Int)
    replace H:(jQ.l0 k1 a0 l1 Bv (wrap64 (as1+1)))=some r:=rH xS.z H
    have H':=k0 H
    clear H
    obtain ⟨cC,cD⟩:=iN as1 (l1.length:Int)
    obtain ⟨jE,e104,cM⟩:=Kd.bK iM.z as1 cC cD
    cases e104
    replace cM:=hbc HB cM
    replace cC:=eT cC
    replace cD:=eT cD
    go_wp2_with (first|((with_reducible refine ji (b:=.append) (xs:=#[.tmp 14,.tmp 25]) rfl ?_);(try (refine at2 (by rfl) ?_;dsimp only));at_builtin;refine Kd.oh (Kd.int .i64) (w0:=w) w.heap.size rfl (.tmp 14) (.tmp 25) 29 2 (.int .i64 0) 8 rfl Try.underlying29 ju rfl (by decide) (by omega) u5 aD (Int.tmod (wrap64 ((Int.tmod (rd l1 as1) a0)+a0)) a0) [.int .i64 (Int.tmod (wrap64 ((Int.tmod (rd l1 as1) a0)+a0)) a0)] (fun _=>True) (fun _=>False) rfl rfl ?aP (fun _ hk=>hk.elim) ?aF ?aO ?aB ?aS ?aL ?_;(case aP=>exact rfl);(case aB=>exact bl);(case aF=>exact (fun _ _=>trivial));(case aO=>exact (aR aq.z));(case aS=>exact (as8 bl));(case aL=>have:=ab'.out;omega);intro C8 w9 ho hb hg a_;rw [← xS.z] at ho;replace HB:=k0 hb;have lz:=k0 ho;clear aq;clear ho hb hg a_))
    first|go_roundg k1|(simp only [← AH];go_roundg k1)
    case measure=>have:=as3.z;omega
    case rel=>exact ⟨(Bv),(wrap64 (as1+1)),rs,(by first|exact H'|(rw [AH];exact H')),⟨by have:=as3.z;omega⟩,⟨aR (lz.z)⟩,⟨bl⟩⟩
   rw [if_pos c7] at H
   exact absurd H (by simp)
end Go.Proofs.Ytapnggjaeehpdaa.B
/- Set with little white space, by a program. -/
