/- The functions that one law reaches, each as a Lean function, and that Go's call comes to what it says. Condition of each: that the Lean function answers (is not none). -/
import Derived.Test.YtoebojnhchocaaaEx0
import Derived.Test.YtoebojnhchocaaaEx9
namespace Go.Proofs.Ytoebojnhchocaaa.E
open Go.RowKit Go.Proofs.bY.apf Go.Proofs.bY.ko Go.Proofs.bY.kN
attribute [local go_sem] max2_int min2_int max_two min_two max_three min_three max_four min_four   -- for this text's walks alone
set_option linter.unusedVariables false
set_option linter.unusedSimpArgs false
set_option maxHeartbeats 8000000
set_option maxRecDepth 100000
/-! ### F202: function 202 -/
def kj.f (aI:List Int) (bV:Int) (ao5:Int) (l1:List Int):Option (Int × Int × Int):=(dg.f aI bV ao5 (l1.length:Int)).bind fun uk=>(if 0≤uk.1 then (if uk.1 < (l1.length:Int) then (some (rd l1 uk.1,uk.2.1,uk.2.2)) else (none)) else (none))
theorem kj.calls (g : Nat) (aI : List Int) (bV : Int) (ao5 : Int) (A1 : Option Addr) (c1 : Nat) (l1 : List Int) (r1 : Int) (r2 : Int) (r3 : Int) (w0 w : World) (hI : ag w0 w g aI bV ao5) (hB : Below w0.heap.size w0 w) (fY : Kd.C (Kd.int .i64) w A1 l1.length l1) (gi : l1.length ≤ c1) (K0 : ∀ ad, A1 = some ad → 0 < l1.length → ad.block ≠ g) (h : kj.f aI bV ao5 l1 = some (r1, r2, r3)) :
  Calls Try.prog 202 #[.pointer (some ⟨g,0,none⟩),.slice A1 l1.length c1] w fun e w'=>e=.returned (.int .i64 r1)∧ag w0 w' g aI r2 r3∧Below w0.heap.size w0 w'∧aoR w w' g none:=by
 have gq:=k0 fY
 have lD:=k0 gi
 clear fY gi
 have ai:=k0 hI
 have HK:=k0 (aoR.refl w g none)
 have HL:=k0 hB.size
 clear hI
 have apt:=k0 hB.size
 have HB:=k0 hB
 clear hB
 have H:((dg.f aI bV ao5 (l1.length:Int)).bind fun uk=>(if 0≤uk.1 then (if uk.1 < (l1.length:Int) then (some (rd l1 uk.1,uk.2.1,uk.2.2)) else (none)) else (none)))=some (r1,r2,r3):=h
 clear h
 replace H:=Option.bind_eq_some_iff.mp H
 obtain ⟨⟨t101,t102,t103⟩,fJ,H⟩:=H
 replace H:(if 0≤t101 then (if t101 < (l1.length:Int) then (some (rd l1 t101,t102,t103)) else (none)) else (none))=some (r1,r2,r3):=H
 have A3:=k0 fJ
 clear fJ
 replace H:=iS H;obtain ⟨c4,H⟩:=H
 have fX:=decide_eq_true c4
 clear c4
 replace H:=iS H;obtain ⟨c5,H⟩:=H
 have jt:=decide_eq_true c5
 clear c5
 simp only [Option.some.injEq,Prod.mk.injEq] at H
 obtain ⟨rfl,rfl,rfl⟩:=H
 go_enter Try.func202,Try.ntmps202
 go_wp2_with (first|((with_reducible refine bg (f:=112) rfl ?_);refine gC (some 9) Try.func112 #[.pointer (some ⟨g,0,none⟩),.int .i64 (l1.length:Int)] ?_;(with_reducible refine (dg.calls g aI bV ao5 (l1.length:Int) t101 t102 t103 w0 _ ?aoN ?aoP A3.z).mono ?_);(case aoN=>repeat (first|(with_reducible first|exact ai.z|apply ag.alloc|apply ag.drewN|apply ag.drew|apply ag.fZ|apply ag.f_)|exact ai.z));(case aoP=>repeat (first|(with_reducible first|exact HB.z|apply a_|apply bf|apply aZ|refine aoO ?_ (ag.ge ai.z))|exact HB.z));rintro e w6 ⟨rfl,hi,hb,hk⟩;refine ⟨_,rfl,?_⟩;replace HK:=k0 (aoR.trans (aK HK.z) hk (.inl rfl));replace HB:=k0 (hb);replace ai:=k0 (hi);have dR:0≤(t101:Int):=oD;have dS:t101 < (l1.length:Int):=oD;obtain ⟨jY,e104,dY⟩:=Kd.cN gq.z t101 dR dS;cases e104;replace dY:=ads HK.z dY (by first|(rw [add_block];exact K0 _ rfl (by omega))|exact K0 _ rfl (by omega)|exact K0 jY rfl (by omega));replace dR:=eq_true dR;replace dS:=eq_true dS))
 go_ret
 exact ⟨eR,aoZ ai.z,by repeat (first|(with_reducible first|exact HB.z|apply a_|apply bf|apply aZ|refine aoO ?_ (ag.ge ai.z))|exact HB.z),aK HK.z⟩
/-! ### F173: function 173 -/
def rP.f (l0:List Int):Option (List Int):=(some (([]:List Int):List Int)).bind fun iJ=>(if iJ.length+l0.length < 17592186044416 then (some (iJ ++ l0)) else (none))
theorem rP.calls (A0 : Option Addr) (c0 : Nat) (l0 : List Int) (r : List Int) (w : World) (cY : Kd.C (Kd.int .i64) w A0 l0.length l0) (hc0 : l0.length ≤ c0) (h : rP.f l0 = some r) :
  Calls Try.prog 173 #[.slice A0 l0.length c0] w fun e w'=>∃ eE:Value,e=.returned (eE)∧Kd.R (Kd.int .i64) 2 w' w.heap.size (fun _=>True) eE r∧Below w.heap.size w w':=by
 have ek:=k0 cY
 have jx:=k0 hc0
 clear cY hc0
 have HB:=k0 (Below.refl w.heap.size w)
 have H:((some (([]:List Int):List Int)).bind fun iJ=>(if iJ.length+l0.length < 17592186044416 then (some (iJ ++ l0)) else (none)))=some r:=h
 clear h
 obtain ⟨iJ,j7⟩:∃ y_:List Int,y_=(([]:List Int)):=⟨_,rfl⟩
 replace H:(if iJ.length+l0.length < 17592186044416 then (some (iJ ++ l0)) else (none))=some r:=rH j7 H
 have jX:=k0 j7
 clear j7
 replace H:=iS H;obtain ⟨c2,H⟩:=H
 have Js:=k0 c2
 clear c2
 obtain ⟨sK,qV⟩:∃ y_:List Int,y_=(iJ ++ l0):=⟨_,rfl⟩
 replace H:(some sK)=some r:=rH qV H
 have aqj:=k0 qV
 clear qV
 obtain rfl:=Option.some.inj H
 go_enter Try.func173,Try.ntmps173
 go_wp2_with (first|((with_reducible refine bp (N:=3) rfl ?_);refine Kd.jr (Kd.int .i64) _ 2 ?hg (N:=3) ?hd (xs:=([]:List Int)) (inner:=[]) (ok:=fun _=>True) (b_:=fun _=>True) ?hr ?hp (fun _ hk=>hk) trivial (Below.refl _ _) (Nat.le_refl _) (by simp) ?_;(case hd=>rfl);(case hg=>rfl);(case hr=>first|(go_simp;done)|(go_simp;rfl));(case hp=>exact (bh.none _ _));intro o5 w3 nM hb cJ cK;clear cJ cK;(first|rw [← jX.z] at nM|(simp only [Int.reduceToNat] at nM;rw [← jX.z] at nM));have eJ:=k0 (Kd.cU nM (aoS bl));replace HB:=k0 (aH bl hb);clear hb nM)|((with_reducible refine kQ (b:=.append) (xs:=#[.tmp 3,.tmp 4]) rfl ?_);at_builtin;refine Kd.OT (Kd.int .i64) (w0:=w) w.heap.size rfl (.tmp 3) (.tmp 4) 28 2 (.int .i64 0) 8 rfl Try.underlying28 mR rfl (by decide) (by omega) o5 iJ l0 _ _ _ (fun _=>True) (fun _=>False) rfl rfl ?aO ?aR (fun _ _ h=>h) (fun _ h=>h.elim) ?aF ?aB ?aS ?aL ?_;(case aR=>repeat (first|exact (Kd.ao4 ek.z HB.z)|(with_reducible refine Kd.wL ?_ _)|(with_reducible refine Kd.zh ?_ _)|(with_reducible refine Kd.vG ?_)));(case aB=>exact bl);(case aF=>exact (fun _ _=>trivial));(case aO=>exact (aR eJ.z));(case aS=>exact (aoS bl));(case aL=>have:=Js.out;omega);intro v105 w5 ho hb hg ao1;rw [← aqj.z] at ho;have aq:=k0 (hb);have au:=k0 (ho);clear HB;clear eJ;have HB:=aq;have gp:=au;clear aq au;clear ho hb hg ao1))
 go_ret
 exact ⟨_,eR,by (with_reducible repeat (first|apply Kd.dK|apply Kd.dD|apply Kd.cB));exact gp.z,bl⟩
/-! ### F231: function 231 -/
def ie.l0 : Nat → Int → Int → List (List Int) → Int → List (List Int) → Option (Int × (List (List Int)))
 | 0,_,_,_,_,_=>none
 | k+1,x4,fG,eH,Us,Nt=>if x4 < (eH.length:Int) then (if 0≤x4 then ((rP.f (av eH x4)).bind fun t108=>(if Nt.length < 5864062014805 then (ie.l0 k (wrap64 (x4+1)) fG eH Us (Nt ++ [t108])) else (none))) else (none)) else (some (Us,Nt))
def ie.f (k:Nat) (ah:Int) (af:List (List Int)):Option (Int × (List (List Int))):=ie.l0 k 0 ah af ah (([]:List (List Int)))
def ie.T5:Bool × List (List Nat × List Nat):=(true,[([],[]),([0],[0]),([],[]),([2],[2]),([],[]),([3,4],[3,4]),([5],[5]),([6],[6]),([7],[7]),([1,8,7],[1,8]),([0,1,2,3,4,5,6,7,8,9],[]),([10,9,9,0,1,2,3,4,5,6,7,8,9],[9,10])])
def ie.B5:List Nat:=[0,1,0,4,0,28,60,124,252,511,1023,2047]
theorem ie.Fj:iP .any (opsOf Try.f231 5)=ie.T5:=by kernel_rfl
theorem ie.DO:nA ie.T5.2 ie.B5=true:=by kernel_rfl
theorem ie.calls (k : Nat) (ah : Int) (aT : Option Addr) (aoW : Nat) (af : List (List Int)) (r1 : Int) (r2 : List (List Int)) (w : World) (cR : Kd.C (Kd.slice 2 (Kd.int .i64)) w aT af.length af) (cX : af.length ≤ aoW) (h : ie.f k ah af = some (r1, r2)) :
  Calls Try.prog 231 #[.agg #[.int .i64 ah,.slice aT af.length aoW]] w fun e w'=>∃ eM:Value,e=.returned (.agg #[.int .i64 r1,eM])∧Kd.S (Kd.slice 2 (Kd.int .i64)) 28 w' w.heap.size (fun _=>True) eM r2∧Below w.heap.size w w':=by
 have iX:=Try.underlying31
 have ao6:=k0 cR
 have cV:=k0 cX
 clear cR cX
 have HB:=k0 (Below.refl w.heap.size w)
 have H:(ie.l0 k 0 ah af ah (([]:List (List Int))))=some (r1,r2):=h
 clear h
 obtain ⟨aqM,Au⟩:∃ y_:List (List Int),y_=(([]:List (List Int))):=⟨_,rfl⟩
 replace H:(ie.l0 k 0 ah af ah aqM)=some (r1,r2):=rH Au H
 have Dy:=k0 Au
 clear Au
 have H':=k0 H
 clear H
 go_enter Try.func231,Try.ntmps231
 go_wp2_with (first|((with_reducible refine bp (N:=1) rfl ?_);refine bR 1 #[.int .i64 ah,.slice aT af.length aoW] 31 ?_;intro aoV hg w2 aE hb;have aa:=k0 (aE);have bB:=gW hg (aoS bl);have aX:=bB;replace HB:=k0 (aH bl hb);clear hb aE hg)|((with_reducible refine bp (N:=2) rfl ?_);refine bR 2 #[.int .i64 0,.slice none 0 0] 31 ?_;intro ct hg w3 aE hb;have ak:=k0 (aE);have fA:=gW hg (aoS bl);have fy:=fA;replace HB:=k0 (aH bl hb);have cP:=nL hg aa;have dJ:=nG cP;replace aa:=kB aa hb;clear hb aE hg;have Sc:=cP.z;have Sp:=dJ.z;have GJ:=aQ aa;have GK:=aoT aa;have GV:=bF aa 0;have GW:=bF aa 1)|((with_reducible refine bp (N:=7) rfl ?_);refine Kd.DH (Kd.slice 2 (Kd.int .i64)) _ 28 ?hg (N:=7) ?hd (xs:=([]:List (List Int))) (inner:=[]) (ok:=fun _=>True) (b_:=fun _=>True) ?hr ?hp (fun _ hk=>hk) trivial (Below.refl _ _) (Nat.le_refl _) (by simp) ?_;(case hd=>rfl);(case hg=>rfl);(case hr=>first|(go_simp;done)|(go_simp;rfl));(case hp=>exact (bh.none _ _));intro tI w6 pQ hb cJ cK;clear cJ cK;(first|rw [← Dy.z] at pQ|(simp only [Int.reduceToNat] at pQ;rw [← Dy.z] at pQ));have aq:=k0 (Kd.ig pQ (aoS bl));have au:=kB aa hb;have ax:=kB ak hb;have aA:=k0 (aH bl hb);clear aa;clear ak;clear HB;have apd:=aq;have aa:=au;have ak:=ax;have HB:=aA;clear aq au ax aA;clear hb pQ;obtain ⟨aqq,yq,D_⟩:=Kd.apc apd.z;subst D_)|((with_reducible refine bp (N:=3) rfl ?_);refine bR 3 #[.int .i64 0,.slice none 0 0] 31 ?_;intro Ec hg w9 aE hb;have aq:=k0 (Kd.gB (aS apd.z) hb);have au:=kB aa hb;have ax:=kB ak hb;have aA:=k0 (aH bl hb);have aG:=k0 (aE);have aM:=k0 ((by rw [hg];exact (aoS bl):w.heap.size≤Ec));have bu:=k0 ((by rw [hg];exact (aoS bl):w.heap.size≤Ec));have cE:=nL hg aa;have ao8:=nG cE;have cG:=nL hg ak;have dy:=nG cG;clear apd;clear aa;clear ak;clear HB;have apd:=aq;have aa:=au;have ak:=ax;have HB:=aA;have jR:=aG;have agx:=aM;have ago:=bu;have zA:=cE;have F3:=ao8;have Bs:=cG;have Jy:=dy;clear aq au ax aA aG aM bu cE ao8 cG dy;clear hb aE hg;have G8:=F3.z;have He:=zA.z;have R1:=Jy.z;have Sd:=Bs.z;have KH:=aQ jR;have KI:=aoT jR;have K3:=bF jR 0;have K4:=bF jR 1))
 go_loopg [4] k (fun kq v4 w'=>∃ (cu:Int) (xI:List (List Int)) (u107001:Value),v4=.int .i64 cu∧aj (ie.l0 kq cu ah af ah xI=some (r1,r2))∧aj (kq≤k)∧aj (Kd.S (Kd.slice 2 (Kd.int .i64)) 28 w' w.heap.size (fun _=>True) u107001 xI)∧aj (w'.heap[aoV]?=some (sO ah aT af aoW 31))∧aj (w'.heap[ct]?=some (.cells #[.int .i64 0,(.slice none 0 0)] 31 (0,0)))∧aj (w'.heap[Ec]?=some (.cells #[.int .i64 ah,u107001] 31 (0,0)))∧aj (Below w.heap.size w w'))
 case atStart=>exact ⟨(0),(aqM),(.slice aqq aqM.length yq),rs,H',⟨Nat.le_refl _⟩,⟨aS (Kd.bq (gS 1 (.slice aqq aqM.length yq) (gS 0 (.int .i64 ah) (tS apd jR))) (fun _ hk=>trivial))⟩,⟨by (with_reducible repeat (first|refine aoU ?_ _|refine aJ ?_|refine aoQ ?_ _));refine bW ?_ zA.z _;(with_reducible repeat (first|refine aoU ?_ _|refine aJ ?_|refine aoQ ?_ _));refine bW ?_ zA.z _;exact bk⟩,⟨by (with_reducible repeat (first|refine aoU ?_ _|refine aJ ?_|refine aoQ ?_ _));refine bW ?_ Bs.z _;(with_reducible repeat (first|refine aoU ?_ _|refine aJ ?_|refine aoQ ?_ _));refine bW ?_ Bs.z _;exact bk⟩,⟨by (with_reducible repeat (first|refine aoU ?_ _|refine aJ ?_|refine aoQ ?_ _));refine bE (cs:=#[.int .i64 ah,.slice none 0 0]) ?_ 1 _ rfl;(with_reducible repeat (first|refine aoU ?_ _|refine aJ ?_|refine aoQ ?_ _));refine bE (cs:=#[.int .i64 0,.slice none 0 0]) ?_ 0 _ rfl;exact bk⟩,⟨bl⟩⟩
 case round =>
  clear H'
  obtain ⟨cu,xI,u107001,rfl,HA,bx,qz,aa,ak,jR,HB⟩:=hrel
  cases gk with
  | zero=>exact absurd HA.z (by simp [ie.l0])
  | succ k1 =>
   have H:=HA.z
   clear HA
   simp only [ie.l0] at H
   by_cases c13:cu < (af.length:Int)
   case neg =>
    rw [if_neg c13] at H
    have ru:decide (cu < (af.length:Int))=false:=decide_eq_false c13
    clear c13
    simp only [Option.some.injEq,Prod.mk.injEq] at H
    obtain ⟨rfl,rfl⟩:=H
    have R9:=cP.z
    have Sl:=dJ.z
    have R_:=zA.z
    have Sm:=F3.z
    have KR:=aQ aa
    have KS:=aoT aa
    have Lc:=bF aa 0
    have Ld:=bF aa 1
    have Lw:=Jy.z
    have LA:=Bs.z
    have Ra:=aQ jR
    have Rb:=aoT jR
    have Rv:=bF jR 0
    have Rw:=bF jR 1
    have Rc:=aQ ak
    have Rd:=aoT ak
    have Rx:=bF ak 0
    have Ry:=bF ak 1
    obtain ⟨rN,rz,aqC⟩:=Kd.apc qz.z
    subst aqC
    go_wp2
    refine bodyPost_ret (results_cell_row rfl _ _ ct 31 #[.int .i64 ah,.slice rN xI.length rz] (0,0) _ rfl (by (with_reducible repeat (first|refine aoU ?_ _|refine aJ ?_|refine aoQ ?_ _));refine bE (cs:=#[.int .i64 ah,.slice none 0 0]) ?_ 1 _ rfl;(with_reducible repeat (first|refine aoU ?_ _|refine aJ ?_|refine aoQ ?_ _));refine bE (cs:=#[.int .i64 0,.slice none 0 0]) ?_ 0 _ rfl;exact bk) Try.underlying31 rfl (by kernel_rfl)) rfl ?_
    exact ⟨_,eR,by (with_reducible repeat (first|apply Kd.cM|apply Kd.cI|apply Kd.cr));exact Kd.bq (gS 1 (.slice rN xI.length rz) (gS 0 (.int .i64 ah) (tS qz ak))) (fun _ hk=>trivial),bl⟩
   rw [if_pos c13] at H
   have ru:=decide_eq_true c13
   clear c13
   replace H:=iS H;obtain ⟨c14,H⟩:=H
   have pJ:=decide_eq_true c14
   clear c14
   replace H:=Option.bind_eq_some_iff.mp H
   obtain ⟨t108,NC,H⟩:=H
   replace H:(if xI.length < 5864062014805 then (ie.l0 k1 (wrap64 (cu+1)) ah af ah (xI ++ [t108])) else (none))=some (r1,r2):=H
   have UI:=k0 NC
   clear NC
   replace H:=iS H;obtain ⟨c16,H⟩:=H
   have Dq:=k0 c16
   clear c16
   obtain ⟨qu,oo⟩:∃ y_:List (List Int),y_=(xI ++ [t108]):=⟨_,rfl⟩
   replace H:(ie.l0 k1 (wrap64 (cu+1)) ah af ah qu)=some (r1,r2):=rH oo H
   have vO:=k0 oo
   clear oo
   have H':=k0 H
   clear H
   have G9:=cP.z
   have Hf:=dJ.z
   have R6:=zA.z
   have Si:=F3.z
   have BV:=aQ aa
   have BW:=aoT aa
   have aqQ:=bF aa 0
   have B6:=bF aa 1
   try go_wp2
   replace qz:=k0 (Kd.cr qz.z);replace aa:=k0 (aJ aa.z);replace ak:=k0 (aJ ak.z);replace jR:=k0 (aJ jR.z);replace HB:=k0 (aZ HB.z)
   have ji:0≤(cu:Int):=oD
   have jk:cu < (af.length:Int):=oD
   obtain ⟨ni,Ba,zP,e107,iN,rE,rC⟩:=fW ao6.z cu ji jk
   have pR:=iN
   cases e107
   replace iN:=hbc HB iN
   have t_:=k0 rC
   have Dd:=k0 rE
   clear rC rE
   replace ji:=eq_true ji
   replace jk:=eq_true jk
   refine apA (n:=12) (S:=fun w'=>w'.cell? ⟨Ec,0,none⟩=some (.int .i64 ah)∧w'.cell? ⟨Ec,1,none⟩=some (u107001)∧w'.cell? ⟨aoV,0,none⟩=some (.int .i64 ah)∧w'.cell? ⟨aoV,1,none⟩=some (.slice (some ni) af.length aoW)∧w'.cell? (ni.add (cu).toNat)=some (.slice Ba (av af cu).length zP)) (ds:=[11]) (ba 12 0) (by kernel_rfl) rfl rfl ⟨aQ jR,aoT jR,aQ aa,aoT aa,(hbc HB pR)⟩ (fun hHeld=>?_);refine nB ie.Fj ie.DO (fun az dA=>?_)
   generalize wr.drew=aqf at qz aa ak jR HB t_ iN hHeld ⊢
   refine pu 0 (some 16) (ba 12 1) az (h:=?_)
   refine pu 2 (some 18) (ba 12 5) az (h:=?_)
   refine pu 4 (some 20) (ba 12 21) az (h:=?_)
   refine ta 1 (some 17) (ba 12 23) az dA hHeld (hy:=Or.inl ⟨by rfl,by rintro w' ⟨s0,s1,s2,s3,s4⟩;go_simp;with_reducible rfl⟩) (h:=?_)
   refine ta 3 (some 19) (ba 12 31) az dA hHeld (hy:=Or.inl ⟨by rfl,by rintro w' ⟨s0,s1,s2,s3,s4⟩;go_simp;with_reducible rfl⟩) (h:=?_)
   refine pu 5 (some 21) (ba 12 63) az (h:=?_)
   refine ta 6 (some 22) (ba 12 127) az dA hHeld (hy:=Or.inl ⟨by rfl,by rintro w' ⟨s0,s1,s2,s3,s4⟩;go_simp;with_reducible rfl⟩) (h:=?_)
   refine ja (i:=7) (N:=some 23) (ba 12 255) rfl rfl (hO az.out (by kernel_rfl)) (by decide) (fun K hK=>?_)
   refine mP Try.func173 (by kernel_rfl) rfl #[.slice Ba (av af cu).length zP] (by rfl) rfl rfl gm ?_
   with_reducible refine (rP.calls _ _ (av af cu) t108 _ ?aoN ?aoP UI.z).mono ?_
   (case aoN=>exact aC (Kd.ao4 t_.z HB.z))
   (case aoP=>exact Dd.z)
   rintro e CN ⟨v109,rfl,aD,hb⟩
   refine ⟨_,rfl,?_⟩
   have aq:=k0 (Kd.cC (aS qz.z) (Kd.aU aD) hb)
   have au:=k0 (Kd.cU aD (aoS bl))
   have ax:=kB aa hb
   have aA:=kB ak hb
   have aG:=kB jR hb
   have aM:=k0 (aH bl hb)
   clear qz
   clear aa
   clear ak
   clear jR
   clear HB
   have qz:=aq
   have oH:=au
   have aa:=ax
   have ak:=aA
   have jR:=aG
   have HB:=aM
   clear aq au ax aA aG aM
   obtain ⟨FI,yo,zY⟩:=Kd.dM oH.z
   (first|subst zY|(injection zY with gv apr gw;have j4:=gv.symm;have j5:=gw.symm;clear gv apr gw;subst j4;subst j5))
   refine hK.out _ _ ⟨aQ jR,aoT jR,aQ aa,aoT aa,(hbc HB pR)⟩ (fun hHeld=>?_)
   clear hK K
   refine jh (a':=?_) ?_ ?_
   rotate_left;· show Act.put _ (some 23) _=_;simp only [Act.put,zI,zZ,zS,cm,cO];rfl
   refine ja (i:=8) (N:=some 24) (ba 12 511) rfl rfl (hO az.out (by kernel_rfl)) (by decide) (fun K hK=>?_)
   refine Fq (w1:=?_) (v:=?_) (by rfl) rfl ?_ ?_
   rotate_left 2
   ·go_simp
    constructor
    ·rfl
    ·rfl
   refine hK.out _ _ ⟨(fq (aoQ jR.z _) 0).trans rfl,(fq (aoQ jR.z _) 1).trans rfl,(fq (aoQ aa.z _) 0).trans rfl,(fq (aoQ aa.z _) 1).trans rfl,(World.cell?_alloc_lt _ _ _ (World.block_lt_of_cell? _ _ ((hbc HB pR)))).trans ((hbc HB pR))⟩ (fun hHeld=>?_)
   clear hK K
   refine jh (a':=?_) ?_ ?_
   rotate_left;· show Act.put _ (some 24) _=_;simp only [Act.put,zI,zZ,zS,cm,cO];rfl
   refine ja (i:=9) (N:=some 25) (ba 12 1023) rfl rfl (hO az.out (by kernel_rfl)) (by decide) (fun K hK=>?_)
   refine Kd.F5 (Kd.slice 2 (Kd.int .i64)) (w0:=w) w.heap.size (by rfl) (.tmp 17) (.tmp 24) 22 28 (.slice none 0 0) 24 rfl Try.underlying22 qX rfl (by decide) (by omega) u107001 xI t108 [.slice FI t108.length yo] (fun _=>True) (fun k_=>some k_=(.slice FI t108.length yo:Value).ownBlock) rfl rfl ?aP (fun k_ bZ=>((Kd.aoY (ok':=fun k_=>((fun _=>True)) k_∧some k_ ≠ (u107001:Value).ownBlock) (Kd.iU (oH.z) (Kd.iE qz.z) (by decide)) (fun k_ hk=>⟨trivial,hk.2⟩))).1 k_ bZ.symm) ?aF ?aO ?aB ?aS ?aL ?_
   (case aP=>exact Kd.apB (Kd.aoY (Kd.mh rfl (Kd.aoY (ok':=fun k_=>((fun _=>True)) k_∧some k_ ≠ (u107001:Value).ownBlock) (Kd.iU (oH.z) (Kd.iE qz.z) (by decide)) (fun k_ hk=>⟨trivial,hk.2⟩))) (fun _ h_=>h_)))
   (case aB=>exact bl)
   (case aF=>exact (fun _ _=>trivial))
   (case aO=>exact (by (with_reducible repeat (first|apply Kd.cM|apply Kd.cI|apply Kd.cr));exact Kd.bq qz.z (fun k_ hk=>⟨trivial,fun e_=>hk.2 e_⟩)))
   (case aS=>exact (aoS bl))
   (case aL=>have:=Dq.out;omega)
   intro Fl tM ho hb hg ao1
   rw [← vO.z] at ho
   have aq:=k0 (fl (aB aa.z) hg (Kd.jz qz.z aa.z (by decide)))
   have au:=k0 (fl (aB ak.z) hg (Kd.jz qz.z ak.z (by decide)))
   have ax:=k0 (fl (aB jR.z) hg (Kd.jz qz.z jR.z (by decide)))
   have aA:=k0 (hb)
   have aG:=k0 (ho)
   clear aa
   clear ak
   clear jR
   clear HB
   clear qz
   clear oH
   have aa:=aq
   have ak:=au
   have jR:=ax
   have HB:=aA
   have oI:=aG
   clear aq au ax aA aG
   clear ho hb hg ao1
   obtain ⟨FJ,Gm,Gt⟩:=Kd.apc oI.z
   (first|subst Gt|(injection Gt with gv apr gw;have j4:=gv.symm;have j5:=gw.symm;clear gv apr gw;subst j4;subst j5))
   refine hK.out _ _ ⟨aQ jR,aoT jR,aQ aa,aoT aa,(hbc HB pR)⟩ (fun hHeld=>?_)
   clear hK K
   refine jh (a':=?_) ?_ ?_
   rotate_left;· show Act.put _ (some 25) _=_;simp only [Act.put,zI,zZ,zS,cm,cO];rfl
   refine pu 10 (some 26) (ba 12 2047) az (h:=?_)
   refine uW (i:=11) (N:=none) (ba 12 4095) rfl rfl (hO az.out (by kernel_rfl)) (by decide) (fun K hK=>?_)
   have anY:=aoT jR
   have ajX:=bF jR 1
   have anS:=zA.z
   have anT:=Bs.z
   have amj:=F3.z
   have amk:=Jy.z
   refine tG (w1:=?_) (by rfl) rfl ?_ ?_
   rotate_left;· go_simp;rfl
   refine hK.out _ _ ?_
   clear hK K
   refine lY (nj az.out (by kernel_rfl)) ?_
   try go_wp2
   go_roundg k1
   case measure=>have:=bx.z;omega
   case rel=>exact ⟨(wrap64 (cu+1)),(qu),(.slice FJ qu.length Gm),rs,H',⟨by have:=bx.z;omega⟩,⟨aS (Kd.bq (gS 1 (.slice FJ qu.length Gm) (tS oI jR)) (fun _ hk=>trivial))⟩,⟨by (with_reducible repeat (first|refine aoU ?_ _|refine aJ ?_|refine aoQ ?_ _));refine bW ?_ zA.z _;exact bk⟩,⟨by (with_reducible repeat (first|refine aoU ?_ _|refine aJ ?_|refine aoQ ?_ _));refine bW ?_ Bs.z _;exact bk⟩,⟨by (with_reducible repeat (first|refine aoU ?_ _|refine aJ ?_|refine aoQ ?_ _));refine bE (cs:=#[.int .i64 ah,u107001]) ?_ 1 _ rfl;exact bk⟩,⟨bl⟩⟩
end Go.Proofs.Ytoebojnhchocaaa.E
/- Set with little white space, by a program. -/
