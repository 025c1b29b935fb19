/- The functions that one law reaches, each as a Lean function, and that Go's call comes to what it says. Condition of each: that the Lean function answers (is not none). -/
import Derived.Test.YtoebojnhchocaaaEx0
import Derived.Test.YtoebojnhchocaaaEx4
import Derived.Test.YtoebojnhchocaaaEx19
namespace Go.Proofs.Ytoebojnhchocaaa.E
open Go.RowKit Go.Proofs.bY.apf Go.Proofs.bY.ko Go.Proofs.bY.kN
attribute [local go_sem] max2_int min2_int max_two min_two max_three min_three max_four min_four   -- for this text's walks alone
set_option linter.unusedVariables false
set_option linter.unusedSimpArgs false
set_option maxHeartbeats 8000000
set_option maxRecDepth 100000
/-! ### F128: function 128 -/
def kY.l0 : Nat → List (List Int) → Int → Int → Int → List (List Int) → Option (Int × (List (List Int)))
 | 0,_,_,_,_,_=>none
 | k+1,fS,lQ,oz,y8,aqg=>if oz < lQ then (if 0≤oz then (if oz < (fS.length:Int) then ((sN.f (av fS oz)).bind fun t105=>(if aqg.length < 5864062014805 then (kY.l0 k fS lQ (wrap64 (oz+1)) y8 (aqg ++ [t105])) else (none))) else (none)) else (none)) else (some (y8,aqg))
def kY.f (k:Nat) (ah:Int) (af:List (List Int)):Option (Int × (List (List Int))):=kY.l0 k af (af.length:Int) 0 ah ([]:List (List Int))
def kY.T5:Bool × List (List Nat × List Nat):=(true,[([],[]),([0],[0]),([],[]),([2],[2]),([3],[3]),([1,4,3],[1,4]),([0,1,2,3,4,5],[]),([6,5,5,0,1,2,3,4,5],[5,6])])
def kY.B5:List Nat:=[0,1,0,4,12,31,63,127]
theorem kY.Fj:iP .any (opsOf Try.f128 5)=kY.T5:=by kernel_rfl
theorem kY.DO:nA kY.T5.2 kY.B5=true:=by kernel_rfl
theorem kY.calls (k : Nat) (ah : Int) (aT : Option Addr) (aoW : Nat) (af : List (List Int)) (r1 : Int) (r2 : List (List Int)) (w : World) (cR : Kd.C (Kd.slice 2 (Kd.int .i64)) w aT af.length af) (cX : af.length ≤ aoW) (h : kY.f k ah af = some (r1, r2)) :
  Calls Try.prog 128 #[.agg #[.int .i64 ah,.slice aT af.length aoW]] w fun e w'=>∃ eM:Value,e=.returned (.agg #[.int .i64 r1,eM])∧Kd.S (Kd.slice 2 (Kd.int .i64)) 28 w' w.heap.size (fun _=>True) eM r2∧Below w.heap.size w w':=by
 have iX:=Try.underlying31
 have ao6:=k0 cR
 have cV:=k0 cX
 clear cR cX
 have HB:=k0 (Below.refl w.heap.size w)
 have H:(kY.l0 k af (af.length:Int) 0 ah ([]:List (List Int)))=some (r1,r2):=h
 clear h
 have H':=k0 H
 clear H
 go_enter Try.func128,Try.ntmps128
 go_wp2_with (first|((with_reducible refine bp (N:=1) rfl ?_);refine bR 1 #[.int .i64 ah,.slice aT af.length aoW] 31 ?_;intro aoV hg w2 aE hb;have aa:=k0 (aE);have bB:=gW hg (aoS bl);have aX:=bB;replace HB:=k0 (aH bl hb);clear hb aE hg)|((with_reducible refine bp (N:=2) rfl ?_);refine bR 2 #[.int .i64 0,.slice none 0 0] 31 ?_;intro ct hg w3 aE hb;have ak:=k0 (aE);have fA:=gW hg (aoS bl);have fy:=fA;replace HB:=k0 (aH bl hb);have cP:=nL hg aa;have dJ:=nG cP;replace aa:=kB aa hb;clear hb aE hg;have Sc:=cP.z;have Sp:=dJ.z;have GJ:=aQ aa;have GK:=aoT aa;have GV:=bF aa 0;have GW:=bF aa 1)|((with_reducible refine bp (N:=3) rfl ?_);refine bR 3 #[.int .i64 0,.slice none 0 0] 31 ?_;intro nk hg w6 aE hb;have aq:=kB aa hb;have au:=kB ak hb;have ax:=k0 (aH bl hb);have aA:=k0 (aE);have aG:=k0 ((by rw [hg];exact (aoS bl):w.heap.size≤nk));have aM:=k0 ((by rw [hg];exact (aoS bl):w.heap.size≤nk));have bu:=nL hg aa;have cE:=nG bu;have ao8:=nL hg ak;have cG:=nG ao8;clear aa;clear ak;clear HB;have aa:=aq;have ak:=au;have HB:=ax;have ao7:=aA;have I5:=aG;have I3:=aM;have nX:=bu;have rW:=cE;have oL:=ao8;have sX:=cG;clear aq au ax aA aG aM bu cE ao8 cG;clear hb aE hg;have EN:=rW.z;have EO:=nX.z;have Cb:=sX.z;have Cd:=oL.z;have v_:=aQ ao7;have we:=aoT ao7;have xp:=bF ao7 0;have wh:=bF ao7 1;have uD:=aQ aa;have uE:=aoT aa;have uF:=bF aa 0;have uG:=bF aa 1))
 go_loopg [12] k (fun kq v12 w'=>∃ (sI:Int) (apN:List (List Int)) (u104001:Value),v12=.int .i64 sI∧aj (kY.l0 kq af (af.length:Int) sI ah apN=some (r1,r2))∧aj (kq≤k)∧aj (Kd.S (Kd.slice 2 (Kd.int .i64)) 28 w' w.heap.size (fun _=>True) u104001 apN)∧aj (w'.heap[aoV]?=some (sO ah aT af aoW 31))∧aj (w'.heap[ct]?=some (.cells #[.int .i64 0,(.slice none 0 0)] 31 (0,0)))∧aj (w'.heap[nk]?=some (.cells #[.int .i64 ah,u104001] 31 (0,0)))∧aj (Below w.heap.size w w'))
 case atStart=>exact ⟨(0),(([]:List (List Int))),(.slice none 0 0),rs,H',⟨Nat.le_refl _⟩,⟨by first|exact Kd.lf _ _ _ _ _|exact Kd.lG _ _ _ _ _|exact Kd.apy _ _ _ _ _|exact Kd.lH _ _ _ _ _|exact Kd.kO _ _ _ _ _⟩,⟨by (with_reducible repeat (first|refine aoU ?_ _|refine aJ ?_|refine aoQ ?_ _));refine bW ?_ nX.z _;(with_reducible repeat (first|refine aoU ?_ _|refine aJ ?_|refine aoQ ?_ _));refine bW ?_ nX.z _;exact bk⟩,⟨by (with_reducible repeat (first|refine aoU ?_ _|refine aJ ?_|refine aoQ ?_ _));refine bW ?_ oL.z _;(with_reducible repeat (first|refine aoU ?_ _|refine aJ ?_|refine aoQ ?_ _));refine bW ?_ oL.z _;exact bk⟩,⟨by (with_reducible repeat (first|refine aoU ?_ _|refine aJ ?_|refine aoQ ?_ _));refine bE (cs:=#[.int .i64 ah,.slice none 0 0]) ?_ 1 _ rfl;(with_reducible repeat (first|refine aoU ?_ _|refine aJ ?_|refine aoQ ?_ _));refine bE (cs:=#[.int .i64 0,.slice none 0 0]) ?_ 0 _ rfl;exact bk⟩,⟨bl⟩⟩
 case round =>
  clear H'
  obtain ⟨sI,apN,u104001,rfl,HA,bx,jo,aa,ak,ao7,HB⟩:=hrel
  cases gk with
  | zero=>exact absurd HA.z (by simp [kY.l0])
  | succ k1 =>
   have H:=HA.z
   clear HA
   simp only [kY.l0] at H
   by_cases c11:sI < (af.length:Int)
   case neg =>
    rw [if_neg c11] at H
    have ku:decide (sI < (af.length:Int))=false:=decide_eq_false c11
    clear c11
    simp only [Option.some.injEq,Prod.mk.injEq] at H
    obtain ⟨rfl,rfl⟩:=H
    have ab4:=rW.z
    have acu:=nX.z
    have R8:=sX.z
    have Sk:=oL.z
    have KL:=aQ ao7
    have KM:=aoT ao7
    have K7:=bF ao7 0
    have K8:=bF ao7 1
    have G_:=dJ.z
    have Hg:=cP.z
    have KN:=aQ ak
    have KO:=aoT ak
    have K9:=bF ak 0
    have K_:=bF ak 1
    obtain ⟨IQ,Gn,BN⟩:=Kd.apc jo.z
    subst BN
    go_wp2
    refine bodyPost_ret (results_cell_row rfl _ _ ct 31 #[.int .i64 ah,.slice IQ apN.length Gn] (0,0) _ rfl (by (with_reducible repeat (first|refine aoU ?_ _|refine aJ ?_|refine aoQ ?_ _));refine bE (cs:=#[.int .i64 ah,.slice none 0 0]) ?_ 1 _ rfl;(with_reducible repeat (first|refine aoU ?_ _|refine aJ ?_|refine aoQ ?_ _));refine bE (cs:=#[.int .i64 0,.slice none 0 0]) ?_ 0 _ rfl;exact bk) Try.underlying31 rfl (by kernel_rfl)) rfl ?_
    exact ⟨_,eR,by (with_reducible repeat (first|apply Kd.cM|apply Kd.cI|apply Kd.cr));exact Kd.bq (gS 1 (.slice IQ apN.length Gn) (gS 0 (.int .i64 ah) (tS jo ak))) (fun _ hk=>trivial),bl⟩
   rw [if_pos c11] at H
   have ku:=decide_eq_true c11
   clear c11
   replace H:=iS H;obtain ⟨c12,H⟩:=H
   have qJ:=decide_eq_true c12
   clear c12
   replace H:=iS H;obtain ⟨c13,H⟩:=H
   have ru:=decide_eq_true c13
   clear c13
   replace H:=Option.bind_eq_some_iff.mp H
   obtain ⟨t105,xR,H⟩:=H
   replace H:(if apN.length < 5864062014805 then (kY.l0 k1 af (af.length:Int) (wrap64 (sI+1)) ah (apN ++ [t105])) else (none))=some (r1,r2):=H
   have CX:=k0 xR
   clear xR
   replace H:=iS H;obtain ⟨c15,H⟩:=H
   have V9:=k0 c15
   clear c15
   obtain ⟨IA,LN⟩:∃ y_:List (List Int),y_=(apN ++ [t105]):=⟨_,rfl⟩
   replace H:(kY.l0 k1 af (af.length:Int) (wrap64 (sI+1)) ah IA)=some (r1,r2):=rH LN H
   have Wu:=k0 LN
   clear LN
   have H':=k0 H
   clear H
   have dR:0≤(sI:Int):=oD
   have dS:sI < (af.length:Int):=oD
   obtain ⟨jY,A_,Bz,e104,dY,pO,pN⟩:=fW ao6.z sI dR dS
   cases e104
   replace dY:=hbc HB dY
   have rU:=k0 pN
   have Bj:=k0 pO
   clear pN pO
   replace dR:=eq_true dR
   replace dS:=eq_true dS
   try go_wp2
   replace jo:=k0 (Kd.cr jo.z);replace aa:=k0 (aJ aa.z);replace ak:=k0 (aJ ak.z);replace ao7:=k0 (aJ ao7.z);replace HB:=k0 (aZ HB.z)
   refine apA (n:=8) (S:=fun w'=>w'.cell? ⟨nk,0,none⟩=some (.int .i64 ah)∧w'.cell? ⟨nk,1,none⟩=some (u104001)) (ds:=[7]) (ba 8 0) (by kernel_rfl) rfl rfl ⟨aQ ao7,aoT ao7⟩ (fun hHeld=>?_);refine nB kY.Fj kY.DO (fun az dA=>?_)
   generalize wr.drew=xE at jo aa ak ao7 HB hHeld ⊢
   refine pu 0 (some 16) (ba 8 1) az (h:=?_)
   refine pu 2 (some 18) (ba 8 5) az (h:=?_)
   refine ta 1 (some 17) (ba 8 7) az dA hHeld (hy:=Or.inl ⟨by rfl,by rintro w' ⟨s0,s1⟩;go_simp;with_reducible rfl⟩) (h:=?_)
   refine ja (i:=3) (N:=some 19) (ba 8 15) rfl rfl (hO az.out (by kernel_rfl)) (by decide) (fun K hK=>?_)
   refine mP Try.func151 (by kernel_rfl) rfl #[.slice A_ (av af sI).length Bz] (by rfl) rfl rfl gm ?_
   with_reducible refine (sN.calls _ _ (av af sI) t105 _ ?aoN ?aoP CX.z).mono ?_
   (case aoN=>exact aC (Kd.ao4 rU.z HB.z))
   (case aoP=>exact Bj.z)
   rintro e xF ⟨vn,rfl,aD,hb⟩
   refine ⟨_,rfl,?_⟩
   have aq:=k0 (Kd.cC (aS jo.z) (Kd.aU aD) hb)
   have au:=k0 (Kd.cU aD (aoS bl))
   have ax:=kB aa hb
   have aA:=kB ak hb
   have aG:=kB ao7 hb
   have aM:=k0 (aH bl hb)
   clear jo
   clear aa
   clear ak
   clear ao7
   clear HB
   have jo:=aq
   have eP:=au
   have aa:=ax
   have ak:=aA
   have ao7:=aG
   have HB:=aM
   clear aq au ax aA aG aM
   obtain ⟨vD,ap9,qO⟩:=Kd.dM eP.z
   (first|subst qO|(injection qO with gv apr gw;have j4:=gv.symm;have j5:=gw.symm;clear gv apr gw;subst j4;subst j5))
   refine hK.out _ _ ⟨aQ ao7,aoT ao7⟩ (fun hHeld=>?_)
   clear hK K
   refine jh (a':=?_) ?_ ?_
   rotate_left;· show Act.put _ (some 19) _=_;simp only [Act.put,zI,zZ,zS,cm,cO];rfl
   refine ja (i:=4) (N:=some 20) (ba 8 31) rfl rfl (hO az.out (by kernel_rfl)) (by decide) (fun K hK=>?_)
   refine Fq (w1:=?_) (v:=?_) (by rfl) rfl ?_ ?_
   rotate_left 2
   ·go_simp
    constructor
    ·rfl
    ·rfl
   refine hK.out _ _ ⟨(fq (aoQ ao7.z _) 0).trans rfl,(fq (aoQ ao7.z _) 1).trans rfl⟩ (fun hHeld=>?_)
   clear hK K
   refine jh (a':=?_) ?_ ?_
   rotate_left;· show Act.put _ (some 20) _=_;simp only [Act.put,zI,zZ,zS,cm,cO];rfl
   refine ja (i:=5) (N:=some 21) (ba 8 63) rfl rfl (hO az.out (by kernel_rfl)) (by decide) (fun K hK=>?_)
   refine Kd.F5 (Kd.slice 2 (Kd.int .i64)) (w0:=w) w.heap.size (by rfl) (.tmp 17) (.tmp 20) 22 28 (.slice none 0 0) 24 rfl Try.underlying22 qX rfl (by decide) (by omega) u104001 apN t105 [.slice vD t105.length ap9] (fun _=>True) (fun k_=>some k_=(.slice vD t105.length ap9:Value).ownBlock) rfl rfl ?aP (fun k_ bZ=>((Kd.aoY (ok':=fun k_=>((fun _=>True)) k_∧some k_ ≠ (u104001:Value).ownBlock) (Kd.iU (eP.z) (Kd.iE jo.z) (by decide)) (fun k_ hk=>⟨trivial,hk.2⟩))).1 k_ bZ.symm) ?aF ?aO ?aB ?aS ?aL ?_
   (case aP=>exact Kd.apB (Kd.aoY (Kd.mh rfl (Kd.aoY (ok':=fun k_=>((fun _=>True)) k_∧some k_ ≠ (u104001:Value).ownBlock) (Kd.iU (eP.z) (Kd.iE jo.z) (by decide)) (fun k_ hk=>⟨trivial,hk.2⟩))) (fun _ h_=>h_)))
   (case aB=>exact bl)
   (case aF=>exact (fun _ _=>trivial))
   (case aO=>exact (by (with_reducible repeat (first|apply Kd.cM|apply Kd.cI|apply Kd.cr));exact Kd.bq jo.z (fun k_ hk=>⟨trivial,fun e_=>hk.2 e_⟩)))
   (case aS=>exact (aoS bl))
   (case aL=>have:=V9.out;omega)
   intro v109 CL ho hb hg ao1
   rw [← Wu.z] at ho
   have aq:=k0 (fl (aB aa.z) hg (Kd.jz jo.z aa.z (by decide)))
   have au:=k0 (fl (aB ak.z) hg (Kd.jz jo.z ak.z (by decide)))
   have ax:=k0 (fl (aB ao7.z) hg (Kd.jz jo.z ao7.z (by decide)))
   have aA:=k0 (hb)
   have aG:=k0 (ho)
   clear aa
   clear ak
   clear ao7
   clear HB
   clear jo
   clear eP
   have aa:=aq
   have ak:=au
   have ao7:=ax
   have HB:=aA
   have oH:=aG
   clear aq au ax aA aG
   clear ho hb hg ao1
   obtain ⟨C6,BH,xh⟩:=Kd.apc oH.z
   (first|subst xh|(injection xh with gv apr gw;have j4:=gv.symm;have j5:=gw.symm;clear gv apr gw;subst j4;subst j5))
   refine hK.out _ _ ⟨aQ ao7,aoT ao7⟩ (fun hHeld=>?_)
   clear hK K
   refine jh (a':=?_) ?_ ?_
   rotate_left;· show Act.put _ (some 21) _=_;simp only [Act.put,zI,zZ,zS,cm,cO];rfl
   refine pu 6 (some 22) (ba 8 127) az (h:=?_)
   refine uW (i:=7) (N:=none) (ba 8 255) rfl rfl (hO az.out (by kernel_rfl)) (by decide) (fun K hK=>?_)
   have anX:=aoT ao7
   have ajW:=bF ao7 1
   have anQ:=nX.z
   have anR:=oL.z
   have amh:=rW.z
   have ami:=sX.z
   refine tG (w1:=?_) (by rfl) rfl ?_ ?_
   rotate_left;· go_simp;rfl
   refine hK.out _ _ ?_
   clear hK K
   refine lY (nj az.out (by kernel_rfl)) ?_
   try go_wp2
   go_roundg k1
   case measure=>have:=bx.z;omega
   case rel=>exact ⟨(wrap64 (sI+1)),(IA),(.slice C6 IA.length BH),rs,H',⟨by have:=bx.z;omega⟩,⟨aS (Kd.bq (gS 1 (.slice C6 IA.length BH) (tS oH ao7)) (fun _ hk=>trivial))⟩,⟨by (with_reducible repeat (first|refine aoU ?_ _|refine aJ ?_|refine aoQ ?_ _));refine bW ?_ nX.z _;exact bk⟩,⟨by (with_reducible repeat (first|refine aoU ?_ _|refine aJ ?_|refine aoQ ?_ _));refine bW ?_ oL.z _;exact bk⟩,⟨by (with_reducible repeat (first|refine aoU ?_ _|refine aJ ?_|refine aoQ ?_ _));refine bE (cs:=#[.int .i64 ah,u104001]) ?_ 1 _ rfl;exact bk⟩,⟨bl⟩⟩
/-! ### F139: function 139 -/
mutual
def jT.l0 : Nat → Int → List Int → Int → Int → Int → List (List Int) → Int → List (List Int) → Option (Int × (List (List Int)) × Int × (List (List Int)))
 | 0,_,_,_,_,_,_,_,_=>none
 | k+1,x1,iA,jb,k9,Ft,Fu,Fv,CT=>if k9 < jb then (if 0≤k9 then (if k9 < (iA.length:Int) then (jT.l1 k x1 (rd iA k9) (([]:List Int)) iA jb k9 x1 0 Ft Fu Fv CT) else (none)) else (none)) else (some (Ft,Fu,Fv,CT))
def jT.l1 : Nat → Int → Int → List Int → List Int → Int → Int → Int → Int → Int → List (List Int) → Int → List (List Int) → Option (Int × (List (List Int)) × Int × (List (List Int)))
 | 0,_,_,_,_,_,_,_,_,_,_,_,_=>none
 | k+1,x1,x9,fS,iA,jb,k9,xL,nR,Ft,Fu,Fv,CT=>if nR < xL then (if x1=0 then (none) else (if fS.length < 17592186044416 then (jT.l1 k x1 x9 (fS ++ [Int.tmod (wrap64 ((Int.tmod (wrap64 (nR+x9)) x1)+x1)) x1]) iA jb k9 xL (wrap64 (nR+1)) Ft Fu Fv CT) else (none))) else (if CT.length < 5864062014805 then (jT.l0 k x1 iA jb (wrap64 (k9+1)) Ft Fu Fv (CT ++ [fS])) else (none))
end
def jT.f (k:Nat) (ah:Int) (af:List (List Int)) (a1:Int) (l2:List Int):Option (Int × (List (List Int)) × Int × (List (List Int))):=(kY.f k ah af).bind fun fc=>(jT.l0 k a1 l2 (l2.length:Int) 0 fc.1 fc.2 a1 ([]:List (List Int)))
theorem jT.split (k : Nat) (ah : Int) (aT : Option Addr) (aoW : Nat) (af : List (List Int)) (a1 : Int) (A2 : Option Addr) (c2 : Nat) (l2 : List Int) (r1 : Int) (r2 : List (List Int)) (r3 : Int) (r4 : List (List Int)) (w : World) (cR : Kd.C (Kd.slice 2 (Kd.int .i64)) w aT af.length af) (cX : af.length ≤ aoW) (su : Kd.C (Kd.int .i64) w A2 l2.length l2) (uC : l2.length ≤ c2) (h : jT.f k ah af a1 l2 = some (r1, r2, r3, r4)) :
  Calls Try.prog 139 #[.agg #[.int .i64 ah,.slice aT af.length aoW],.int .i64 a1,.slice A2 l2.length c2] w fun e w'=>∃ eM ny:Value,∃ m_:Nat,e=.returned (.agg #[.int .i64 r1,eM,.int .i64 r3,ny])∧Kd.S (Kd.slice 2 (Kd.int .i64)) 28 w' w.heap.size (fun k_=>k_ < m_) eM r2∧Kd.S (Kd.slice 2 (Kd.int .i64)) 28 w' w.heap.size (fun k_=>m_≤k_) ny r4∧Below w.heap.size w w':=by
 have iX:=Try.underlying31
 have wo:=Try.underlying33
 have ao6:=k0 cR
 have cV:=k0 cX
 clear cR cX
 have zx:=k0 su
 have wU:=k0 uC
 clear su uC
 have HB:=k0 (Below.refl w.heap.size w)
 have H:((kY.f k ah af).bind fun fc=>(jT.l0 k a1 l2 (l2.length:Int) 0 fc.1 fc.2 a1 ([]:List (List Int))))=some (r1,r2,r3,r4):=h
 clear h
 replace H:=Option.bind_eq_some_iff.mp H
 obtain ⟨⟨t103,t104⟩,fu,H⟩:=H
 replace H:(jT.l0 k a1 l2 (l2.length:Int) 0 t103 t104 a1 ([]:List (List Int)))=some (r1,r2,r3,r4):=H
 have A4:=k0 fu
 clear fu
 have H':=k0 H
 clear H
 go_enter Try.func139,Try.ntmps139
 go_wp2_with (first|((with_reducible refine bp (N:=3) rfl ?_);refine bR 3 #[.int .i64 ah,.slice aT af.length aoW] 31 ?_;intro aoV hg w5 aE hb;have aa:=k0 (aE);have bB:=gW hg (aoS bl);have aX:=bB;replace HB:=k0 (aH bl hb);clear hb aE hg)|((with_reducible refine bp (N:=6) rfl ?_);refine bR 6 #[.int .i64 0,.slice none 0 0,.int .i64 0,.slice none 0 0] 33 ?_;intro ct hg w6 aE hb;have ak:=k0 (aE);have fA:=gW hg (aoS bl);have fy:=fA;replace HB:=k0 (aH bl hb);have cP:=nL hg aa;have dJ:=nG cP;replace aa:=kB aa hb;clear hb aE hg;have EN:=cP.z;have EO:=dJ.z;have BX:=aQ aa;have BZ:=aoT aa;have B7:=bF aa 0;have aqR:=bF aa 1)|((with_reducible refine bg (f:=128) rfl ?_);refine gC (some 13) Try.func128 #[.agg #[.int .i64 ah,.slice aT af.length aoW]] ?_;(with_reducible refine (kY.calls k ah _ _ af t103 t104 _ ?aoN ?aoP A4.z).mono ?_);(case aoN=>exact aC (Kd.ao4 ao6.z HB.z));(case aoP=>exact cV.z);rintro e w9 ⟨v105,rfl,aD,hb⟩;refine ⟨_,rfl,?_⟩;have aq:=k0 (Kd.ig aD (aoS bl));have au:=kB aa hb;have ax:=kB ak hb;have aA:=k0 (aH bl hb);clear aa;clear ak;clear HB;have gp:=aq;have aa:=au;have ak:=ax;have HB:=aA;clear aq au ax aA;obtain ⟨jl,ju,zW⟩:=Kd.apc gp.z;subst zW)|((with_reducible refine bp (N:=7) rfl ?_);refine bR 7 #[.int .i64 0,.slice none 0 0,.int .i64 0,.slice none 0 0] 33 ?_;intro j6 hg vp aE hb;have uZ:=k0 (Kd.bq (Kd.gB (Kd.DG (aS gp.z)) hb) (fun k_ bZ=>(by rw [hg];exact bZ.2.2.1:k_ < j6)));have aq:=k0 (Kd.gB (aS gp.z) hb);have au:=kB aa hb;have ax:=kB ak hb;have aA:=k0 (aH bl hb);have aG:=k0 (aE);have aM:=k0 ((by rw [hg];exact (aoS bl):w.heap.size≤j6));have bu:=k0 ((by rw [hg];exact (aoS bl):w.heap.size≤j6));have cE:=nL hg aa;have ao8:=nG cE;have cG:=nL hg ak;have dy:=nG cG;clear gp;clear aa;clear ak;clear HB;have gp:=aq;have aa:=au;have ak:=ax;have HB:=aA;have di:=aG;have FN:=aM;have Oa:=bu;have p8:=cE;have zB:=ao8;have yb:=cG;have Jz:=dy;clear aq au ax aA aG aM bu cE ao8 cG dy;have HP:=uZ;clear uZ;clear hb aE hg;have R2:=zB.z;have Se:=p8.z;have amA:=Jz.z;have anj:=yb.z;have yB:=aQ di;have yC:=aoT di;have aaz:=ao_ di;have aaA:=ec di;have yE:=bF di 0;have yF:=bF di 1;have abk:=bF di 2;have abl:=bF di 3))
 go_loopg [18] k (fun kq Fp w'=>∃ (dZ:Int) (tN:List (List Int)) (u108003:Value),Fp=.int .i64 dZ∧aj (jT.l0 kq a1 l2 (l2.length:Int) dZ t103 t104 a1 tN=some (r1,r2,r3,r4))∧aj (kq≤k)∧aj (Kd.S (Kd.slice 2 (Kd.int .i64)) 28 w' w.heap.size (fun k_=>some k_ ≠ (u108003:Value).ownBlock) (.slice jl t104.length ju) t104)∧aj (Kd.S (Kd.slice 2 (Kd.int .i64)) 28 w' w.heap.size (fun k_=>(j6 < k_∧some k_ ≠ ((.slice jl t104.length ju):Value).ownBlock)) u108003 tN)∧aj (w'.heap[aoV]?=some (sO ah aT af aoW 31))∧aj (w'.heap[ct]?=some (.cells #[.int .i64 0,(.slice none 0 0),.int .i64 0,(.slice none 0 0)] 33 (0,0)))∧aj (w'.heap[j6]?=some (.cells #[.int .i64 t103,(.slice jl t104.length ju),.int .i64 a1,u108003] 33 (0,0)))∧aj (Kd.S (Kd.slice 2 (Kd.int .i64)) 28 w' w.heap.size (fun k_=>k_ < j6) (.slice jl t104.length ju) t104)∧aj (Below w.heap.size w w'))
 case atStart=>exact ⟨(0),(([]:List (List Int))),(.slice none 0 0),rs,H',⟨Nat.le_refl _⟩,⟨aS (Kd.bq (gS 3 (.slice none 0 0) (gS 2 (.int .i64 a1) (gS 1 (.slice jl t104.length ju) (gS 0 (.int .i64 t103) (tS gp di))))) (fun _ hk=>(by simp [Value.ownBlock])))⟩,⟨by first|exact Kd.lf _ _ _ _ _|exact Kd.lG _ _ _ _ _|exact Kd.apy _ _ _ _ _|exact Kd.lH _ _ _ _ _|exact Kd.kO _ _ _ _ _⟩,⟨by (with_reducible repeat (first|refine aoU ?_ _|refine aJ ?_|refine aoQ ?_ _));refine bW ?_ p8.z _;(with_reducible repeat (first|refine aoU ?_ _|refine aJ ?_|refine aoQ ?_ _));refine bW ?_ p8.z _;(with_reducible repeat (first|refine aoU ?_ _|refine aJ ?_|refine aoQ ?_ _));refine bW ?_ p8.z _;(with_reducible repeat (first|refine aoU ?_ _|refine aJ ?_|refine aoQ ?_ _));refine bW ?_ p8.z _;exact bk⟩,⟨by (with_reducible repeat (first|refine aoU ?_ _|refine aJ ?_|refine aoQ ?_ _));refine bW ?_ yb.z _;(with_reducible repeat (first|refine aoU ?_ _|refine aJ ?_|refine aoQ ?_ _));refine bW ?_ yb.z _;(with_reducible repeat (first|refine aoU ?_ _|refine aJ ?_|refine aoQ ?_ _));refine bW ?_ yb.z _;(with_reducible repeat (first|refine aoU ?_ _|refine aJ ?_|refine aoQ ?_ _));refine bW ?_ yb.z _;exact bk⟩,⟨by (with_reducible repeat (first|refine aoU ?_ _|refine aJ ?_|refine aoQ ?_ _));refine bE (cs:=#[.int .i64 t103,.slice jl t104.length ju,.int .i64 a1,.slice none 0 0]) ?_ 3 _ rfl;(with_reducible repeat (first|refine aoU ?_ _|refine aJ ?_|refine aoQ ?_ _));refine bE (cs:=#[.int .i64 t103,.slice jl t104.length ju,.int .i64 0,.slice none 0 0]) ?_ 2 _ rfl;(with_reducible repeat (first|refine aoU ?_ _|refine aJ ?_|refine aoQ ?_ _));refine bE (cs:=#[.int .i64 t103,.slice none 0 0,.int .i64 0,.slice none 0 0]) ?_ 1 _ rfl;(with_reducible repeat (first|refine aoU ?_ _|refine aJ ?_|refine aoQ ?_ _));refine bE (cs:=#[.int .i64 0,.slice none 0 0,.int .i64 0,.slice none 0 0]) ?_ 0 _ rfl;exact bk⟩,⟨by (with_reducible repeat (first|apply Kd.cM|apply Kd.cI|apply Kd.cr));(repeat (refine Kd.nI ?_ (fun k_ bZ=>Nat.ne_of_lt bZ) _;(with_reducible repeat (first|apply Kd.cM|apply Kd.cI|apply Kd.cr))));exact HP.out⟩,⟨bl⟩⟩
 case round =>
  clear H'
  obtain ⟨dZ,tN,u108003,rfl,HA,bx,apL,nV,aa,ak,di,HP,HB⟩:=hrel
  cases gk with
  | zero=>exact absurd HA.z (by simp [jT.l0])
  | succ k1 =>
   have H:=HA.z
   clear HA
   simp only [jT.l0] at H
   by_cases c15:dZ < (l2.length:Int)
   case neg =>
    rw [if_neg c15] at H
    have oN:decide (dZ < (l2.length:Int))=false:=decide_eq_false c15
    clear c15
    simp only [Option.some.injEq,Prod.mk.injEq] at H
    obtain ⟨rfl,rfl,rfl,rfl⟩:=H
    have ab5:=zB.z
    have acv:=p8.z
    have Sb:=Jz.z
    have So:=yb.z
    have GF:=aQ di
    have GG:=aoT di
    have aaO:=ao_ di
    have aaP:=ec di
    have GQ:=bF di 0
    have GR:=bF di 1
    have abA:=bF di 2
    have abB:=bF di 3
    have Lx:=dJ.z
    have LB:=cP.z
    have GH:=aQ ak
    have GI:=aoT ak
    have aiA:=ao_ ak
    have aiB:=ec ak
    have GS:=bF ak 0
    have GU:=bF ak 1
    have akK:=bF ak 2
    have akL:=bF ak 3
    obtain ⟨ep,eo,D9⟩:=Kd.apc nV.z
    subst D9
    go_wp2
    refine bodyPost_ret (results_cell_row rfl _ _ ct 33 #[.int .i64 t103,.slice jl t104.length ju,.int .i64 a1,.slice ep tN.length eo] (0,0) _ rfl (by (with_reducible repeat (first|refine aoU ?_ _|refine aJ ?_|refine aoQ ?_ _));refine bE (cs:=#[.int .i64 t103,.slice jl t104.length ju,.int .i64 a1,.slice none 0 0]) ?_ 3 _ rfl;(with_reducible repeat (first|refine aoU ?_ _|refine aJ ?_|refine aoQ ?_ _));refine bE (cs:=#[.int .i64 t103,.slice jl t104.length ju,.int .i64 0,.slice none 0 0]) ?_ 2 _ rfl;(with_reducible repeat (first|refine aoU ?_ _|refine aJ ?_|refine aoQ ?_ _));refine bE (cs:=#[.int .i64 t103,.slice none 0 0,.int .i64 0,.slice none 0 0]) ?_ 1 _ rfl;(with_reducible repeat (first|refine aoU ?_ _|refine aJ ?_|refine aoQ ?_ _));refine bE (cs:=#[.int .i64 0,.slice none 0 0,.int .i64 0,.slice none 0 0]) ?_ 0 _ rfl;exact bk) Try.underlying33 rfl (by kernel_rfl)) rfl ?_
    exact ⟨_,_,j6,eR,by (with_reducible repeat (first|apply Kd.cM|apply Kd.cI|apply Kd.cr));exact Kd.bq (gS 3 (.slice ep tN.length eo) (gS 2 (.int .i64 a1) (gS 1 (.slice jl t104.length ju) (gS 0 (.int .i64 t103) (tS HP ak))))) (fun _ hk=>hk.1),by (with_reducible repeat (first|apply Kd.cM|apply Kd.cI|apply Kd.cr));exact Kd.bq (gS 3 (.slice ep tN.length eo) (gS 2 (.int .i64 a1) (gS 1 (.slice jl t104.length ju) (gS 0 (.int .i64 t103) (tS nV ak))))) (fun _ hk=>Nat.le_of_lt hk.1.1),bl⟩
   rw [if_pos c15] at H
   have oN:=decide_eq_true c15
   clear c15
   replace H:=iS H;obtain ⟨c16,H⟩:=H
   have qK:=decide_eq_true c16
   clear c16
   replace H:=iS H;obtain ⟨c17,H⟩:=H
   have ur:=decide_eq_true c17
   clear c17
   obtain ⟨mW,om⟩:∃ y_:List Int,y_=(([]:List Int)):=⟨_,rfl⟩
   replace H:(jT.l1 k1 a1 (rd l2 dZ) mW l2 (l2.length:Int) dZ a1 0 t103 t104 a1 tN)=some (r1,r2,r3,r4):=rH om H
   have sZ:=k0 om
   clear om
   have H':=k0 H
   clear H
   have iw:0≤(dZ:Int):=oD
   have iy:dZ < (l2.length:Int):=oD
   obtain ⟨qG,e108,ij⟩:=Kd.cN zx.z dZ iw iy
   cases e108
   replace ij:=hbc HB ij
   replace iw:=eq_true iw
   replace iy:=eq_true iy
   go_wp2_with (first|((with_reducible refine bp (N:=22) rfl ?_);refine Kd.jr (Kd.int .i64) _ 2 ?hg (N:=22) ?hd (xs:=([]:List Int)) (inner:=[]) (ok:=fun _=>True) (b_:=fun _=>True) ?hr ?hp (fun _ hk=>hk) trivial (Below.refl _ _) (Nat.le_refl _) (by simp) ?_;(case hd=>rfl);(case hg=>rfl);(case hr=>first|(go_simp;done)|(go_simp;rfl));(case hp=>exact (bh.none _ _));intro wD CL Al hb cJ cK;clear cJ cK;(first|rw [← sZ.z] at Al|(simp only [Int.reduceToNat] at Al;rw [← sZ.z] at Al));have aq:=k0 (Kd.cC (aS apL.z) (Kd.aU Al) hb);have au:=k0 (Kd.cC (aS nV.z) (Kd.aU Al) hb);have ax:=k0 (Kd.cU (Kd.aoY (Kd.rZ Al) (fun k_ bZ=>Nat.lt_of_lt_of_le (qH (o:=.cells #[.int .i64 t103,.slice jl t104.length ju,.int .i64 a1,u108003] 33 (0,0)) bk) bZ.2.1)) (aoS bl));have aA:=kB aa hb;have aG:=kB ak hb;have aM:=kB di hb;have bu:=k0 (aH bl hb);have uZ:=k0 (Kd.gB (aS HP.out) hb);clear HP;have HP:=uZ;clear uZ;clear apL;clear nV;clear aa;clear ak;clear di;clear HB;have apL:=aq;have nV:=au;have nT:=ax;have aa:=aA;have ak:=aG;have di:=aM;have HB:=bu;clear aq au ax aA aG aM bu;clear hb Al))
   go_loopg [10,24] k1 (fun kq v10 v24 w'=>∃ (gz:List Int) (fH:Int),v24=.int .i64 fH∧aj (jT.l1 kq a1 (rd l2 dZ) gz l2 (l2.length:Int) dZ a1 fH t103 t104 a1 tN=some (r1,r2,r3,r4))∧aj (kq≤k1)∧aj (Kd.R (Kd.int .i64) 2 w' w.heap.size (fun k_=>j6 < k_) v10 gz)∧aj (Kd.S (Kd.slice 2 (Kd.int .i64)) 28 w' w.heap.size (fun k_=>some k_ ≠ (v10:Value).ownBlock∧some k_ ≠ (u108003:Value).ownBlock) (.slice jl t104.length ju) t104)∧aj (Kd.S (Kd.slice 2 (Kd.int .i64)) 28 w' w.heap.size (fun k_=>some k_ ≠ (v10:Value).ownBlock∧(j6 < k_∧some k_ ≠ ((.slice jl t104.length ju):Value).ownBlock)) u108003 tN)∧aj (w'.heap[aoV]?=some (sO ah aT af aoW 31))∧aj (w'.heap[ct]?=some (.cells #[.int .i64 0,(.slice none 0 0),.int .i64 0,(.slice none 0 0)] 33 (0,0)))∧aj (w'.heap[j6]?=some (.cells #[.int .i64 t103,(.slice jl t104.length ju),.int .i64 a1,u108003] 33 (0,0)))∧aj (Kd.S (Kd.slice 2 (Kd.int .i64)) 28 w' w.heap.size (fun k_=>k_ < j6) (.slice jl t104.length ju) t104)∧aj (Below w.heap.size w w'))
   case atStart=>exact ⟨(mW),(0),rs,H',⟨Nat.le_refl _⟩,⟨aR (nT.z)⟩,⟨aS (Kd.bq apL.z (fun _ hk=>⟨hk.2,hk.1⟩))⟩,⟨aS (Kd.bq nV.z (fun _ hk=>⟨hk.2,hk.1⟩))⟩,⟨bk⟩,⟨bk⟩,⟨bk⟩,⟨by (with_reducible repeat (first|apply Kd.cM|apply Kd.cI|apply Kd.cr));(repeat (refine Kd.nI ?_ (fun k_ bZ=>Nat.ne_of_lt bZ) _;(with_reducible repeat (first|apply Kd.cM|apply Kd.cI|apply Kd.cr))));exact HP.out⟩,⟨bl⟩⟩
   case round =>
    clear H'
    obtain ⟨gz,fH,rfl,HA,cD,dw,apL,nV,aa,ak,di,HP,HB⟩:=hrel
    cases gk with
    | zero=>exact absurd HA.z (by simp [jT.l1])
    | succ k2 =>
     have H:=HA.z
     clear HA
     simp only [jT.l1] at H
     by_cases c20:fH < a1
     case neg =>
      rw [if_neg c20] at H
      have BA:decide (fH < a1)=false:=decide_eq_false c20
      clear c20
      replace H:=iS H;obtain ⟨c24,H⟩:=H
      have Jt:=k0 c24
      clear c24
      obtain ⟨nD,ot⟩:∃ y_:List (List Int),y_=(tN ++ [gz]):=⟨_,rfl⟩
      replace H:(jT.l0 k2 a1 l2 (l2.length:Int) (wrap64 (dZ+1)) t103 t104 a1 nD)=some (r1,r2,r3,r4):=rH ot H
      have vQ:=k0 ot
      clear ot
      have H':=k0 H
      clear H
      have G_:=zB.z
      have Hg:=p8.z
      have R9:=Jz.z
      have Sl:=yb.z
      have KP:=aQ di
      have KQ:=aoT di
      have aaM:=ao_ di
      have aaN:=ec di
      have La:=bF di 0
      have Lb:=bF di 1
      have aby:=bF di 2
      have abz:=bF di 3
      obtain ⟨api,gJ,yw⟩:=Kd.dM dw.z
      subst yw
      go_wp2_with (first|((with_reducible refine kQ (b:=.append) (xs:=#[.tmp 41,.tmp 43]) rfl ?_);at_builtin;refine Kd.uj (Kd.slice 2 (Kd.int .i64)) (w0:=w) w.heap.size rfl (.tmp 41) (.tmp 43) 22 28 (.slice none 0 0) 24 rfl Try.underlying22 qX rfl (by decide) (by omega) u108003 tN gz [.slice api gz.length gJ] (fun k_=>(j6 < k_∧some k_ ≠ (.slice jl t104.length ju:Value).ownBlock)) (fun k_=>some k_=(.slice api gz.length gJ:Value).ownBlock) rfl rfl ?aP (fun k_ bZ=>((Kd.aoY (ok':=fun k_=>((fun k_=>(j6 < k_∧some k_ ≠ (.slice jl t104.length ju:Value).ownBlock))) k_∧some k_ ≠ (u108003:Value).ownBlock) (Kd.iU (Kd.iU (dw.z) (Kd.iE apL.z) (by decide)) (Kd.iE nV.z) (by decide)) (fun k_ hk=>⟨⟨hk.1.1,hk.1.2⟩,hk.2⟩))).1 k_ bZ.symm) ?aF ?aO ?aB ?aS ?aL ?_;(case aP=>exact Kd.apB (Kd.aoY (Kd.mh rfl (Kd.aoY (ok':=fun k_=>((fun k_=>(j6 < k_∧some k_ ≠ (.slice jl t104.length ju:Value).ownBlock))) k_∧some k_ ≠ (u108003:Value).ownBlock) (Kd.iU (Kd.iU (dw.z) (Kd.iE apL.z) (by decide)) (Kd.iE nV.z) (by decide)) (fun k_ hk=>⟨⟨hk.1.1,hk.1.2⟩,hk.2⟩))) (fun _ h_=>h_)));(case aB=>exact bl);(case aF=>exact (fun k_ hk=>⟨Nat.lt_of_lt_of_le (qH (o:=.cells #[.int .i64 t103,.slice jl t104.length ju,.int .i64 a1,u108003] 33 (0,0)) bk) hk,Kd.fresh' (Kd.ap6 (aS apL.z)) k_ hk⟩));(case aO=>exact (by (with_reducible repeat (first|apply Kd.cM|apply Kd.cI|apply Kd.cr));exact Kd.bq nV.z (fun k_ hk=>⟨hk.2,fun e_=>hk.1 e_⟩)));(case aS=>exact (aoS bl));(case aL=>have:=Jt.out;omega);intro Nj aqG ho hb hg ao1;rw [← vQ.z] at ho;have aq:=k0 (Kd.apW (ok:=(fun k_=>some k_ ≠ (.slice api gz.length gJ:Value).ownBlock)) (aS apL.z) hg ao1);have au:=k0 (fl (aB aa.z) hg (Kd.jz nV.z aa.z (by decide)));have ax:=k0 (fl (aB ak.z) hg (Kd.jz nV.z ak.z (by decide)));have aA:=k0 (fl (aB di.z) hg (Kd.jz nV.z di.z (by decide)));have aG:=k0 (hb);have aM:=k0 (ho);have uZ:=k0 (Kd.O1 (aS HP.out) hg (fun k_ bZ e_=>Nat.lt_asymm bZ (((Kd.qF nV.z).1 k_ e_.symm).2.1)));clear HP;have HP:=uZ;clear uZ;clear apL;clear aa;clear ak;clear di;clear HB;clear nV;clear dw;have apL:=aq;have aa:=au;have ak:=ax;have di:=aA;have HB:=aG;have sV:=aM;clear aq au ax aA aG aM;clear ho hb hg ao1;obtain ⟨hU,gK,aqe⟩:=Kd.apc sV.z;subst aqe;have Rc:=aQ di;have Rd:=aoT di;have aiu:=ao_ di;have aiv:=ec di;have Rx:=bF di 0;have Ry:=bF di 1;have akE:=bF di 2;have akF:=bF di 3))
      go_roundg k2
      case measure=>have:=bx.z;have:=cD.z;omega
      case rel=>exact ⟨(wrap64 (dZ+1)),(nD),(.slice hU nD.length gK),rs,H',⟨by have:=bx.z;have:=cD.z;omega⟩,⟨aS (Kd.bq (gS 3 (.slice hU nD.length gK) (tS apL di)) (fun _ hk=>hk.1.2))⟩,⟨aS (Kd.bq (gS 3 (.slice hU nD.length gK) (tS sV di)) (fun _ hk=>hk.1))⟩,⟨by (with_reducible repeat (first|refine aoU ?_ _|refine aJ ?_|refine aoQ ?_ _));refine bW ?_ p8.z _;exact bk⟩,⟨by (with_reducible repeat (first|refine aoU ?_ _|refine aJ ?_|refine aoQ ?_ _));refine bW ?_ yb.z _;exact bk⟩,⟨by (with_reducible repeat (first|refine aoU ?_ _|refine aJ ?_|refine aoQ ?_ _));refine bE (cs:=#[.int .i64 t103,.slice jl t104.length ju,.int .i64 a1,u108003]) ?_ 3 _ rfl;exact bk⟩,⟨by (with_reducible repeat (first|apply Kd.cM|apply Kd.cI|apply Kd.cr));(repeat (refine Kd.nI ?_ (fun k_ bZ=>Nat.ne_of_lt bZ) _;(with_reducible repeat (first|apply Kd.cM|apply Kd.cI|apply Kd.cr))));exact HP.out⟩,⟨bl⟩⟩
     rw [if_pos c20] at H
     have BA:=decide_eq_true c20
     clear c20
     by_cases c21:a1=0
     case neg =>
      rw [if_neg c21] at H
      have yl:(a1 == 0)=false:=beq_eq_false_iff_ne.mpr c21
      have Py:(a1 != 0)=true:=bne_iff_ne.mpr c21
      replace H:=iS H;obtain ⟨c22,H⟩:=H
      have Wc:=k0 c22
      clear c22
      obtain ⟨o_,oq⟩:∃ y_:List Int,y_=(gz ++ [Int.tmod (wrap64 ((Int.tmod (wrap64 (fH+(rd l2 dZ))) a1)+a1)) a1]):=⟨_,rfl⟩
      replace H:(jT.l1 k2 a1 (rd l2 dZ) o_ l2 (l2.length:Int) dZ a1 (wrap64 (fH+1)) t103 t104 a1 tN)=some (r1,r2,r3,r4):=rH oq H
      have vP:=k0 oq
      clear oq
      have H':=k0 H
      clear H
      go_wp2_with (first|((with_reducible refine kQ (b:=.append) (xs:=#[.tmp 27,.tmp 37]) rfl ?_);at_builtin;refine Kd.p9 (Kd.int .i64) (w0:=w) w.heap.size rfl (.tmp 27) (.tmp 37) 28 2 (.int .i64 0) 8 rfl Try.underlying28 mR rfl (by decide) (by omega) u10 gz (Int.tmod (wrap64 ((Int.tmod (wrap64 (fH+(rd l2 dZ))) a1)+a1)) a1) [.int .i64 (Int.tmod (wrap64 ((Int.tmod (wrap64 (fH+(rd l2 dZ))) a1)+a1)) a1)] (fun k_=>j6 < k_) (fun _=>False) rfl rfl ?aP (fun _ hk=>hk.elim) ?aF ?aO ?aB ?aS ?aL ?_;(case aP=>exact rfl);(case aB=>exact bl);(case aF=>exact (fun k_ bZ=>Nat.lt_of_lt_of_le (qH (o:=.cells #[.int .i64 t103,.slice jl t104.length ju,.int .i64 a1,u108003] 33 (0,0)) bk) bZ));(case aO=>exact (aR dw.z));(case aS=>exact (aoS bl));(case aL=>have:=Wc.out;omega);intro Ni CO ho hb hg ao1;rw [← vP.z] at ho;have aq:=k0 (Kd.apW (ok:=(fun k_=>some k_ ≠ (u108003:Value).ownBlock)) (by (with_reducible repeat (first|apply Kd.cM|apply Kd.cI|apply Kd.cr));exact Kd.bq apL.z (fun _ hk=>⟨hk.2,hk.1⟩)) hg ao1);have au:=k0 (Kd.apW (ok:=(fun k_=>(j6 < k_∧some k_ ≠ (.slice jl t104.length ju:Value).ownBlock))) (by (with_reducible repeat (first|apply Kd.cM|apply Kd.cI|apply Kd.cr));exact Kd.bq nV.z (fun _ hk=>⟨hk.2,hk.1⟩)) hg ao1);have ax:=k0 (fl (aB aa.z) hg (Kd.kr dw.z aa.z (by decide)));have aA:=k0 (fl (aB ak.z) hg (Kd.kr dw.z ak.z (by decide)));have aG:=k0 (fl (aB di.z) hg (Kd.kr dw.z di.z (by decide)));have aM:=k0 (hb);have bu:=k0 (ho);have uZ:=k0 (Kd.O1 (aS HP.out) hg (fun k_ bZ e_=>Nat.lt_asymm bZ (dw.z.1 k_ e_.symm)));clear HP;have HP:=uZ;clear uZ;clear apL;clear nV;clear aa;clear ak;clear di;clear HB;clear dw;have apL:=aq;have nV:=au;have aa:=ax;have ak:=aA;have di:=aG;have HB:=aM;have sU:=bu;clear aq au ax aA aG aM bu;clear ho hb hg ao1))
      go_roundg k2
      case measure=>have:=bx.z;have:=cD.z;omega
      case rel=>exact ⟨(o_),(wrap64 (fH+1)),rs,H',⟨by have:=bx.z;have:=cD.z;omega⟩,⟨aR (sU.z)⟩,⟨aS (Kd.bq apL.z (fun _ hk=>⟨hk.2,hk.1⟩))⟩,⟨aS (Kd.bq nV.z (fun _ hk=>⟨hk.2,hk.1⟩))⟩,⟨bk⟩,⟨bk⟩,⟨bk⟩,⟨by (with_reducible repeat (first|apply Kd.cM|apply Kd.cI|apply Kd.cr));(repeat (refine Kd.nI ?_ (fun k_ bZ=>Nat.ne_of_lt bZ) _;(with_reducible repeat (first|apply Kd.cM|apply Kd.cI|apply Kd.cr))));exact HP.out⟩,⟨bl⟩⟩
     rw [if_pos c21] at H
     exact absurd H (by simp)
/-! ### F56: function 56 -/
def lU.l0 : Nat → List Int → List Int → Int → Int → Int → List (List Int) → Option (Int × (List (List Int)) × Int × (List (List Int)) × Int)
 | 0,_,_,_,_,_,_=>none
 | k+1,x7,k9,qt,aqz,fG,eH=>if aqz < qt then (if 0≤aqz then (if aqz < (k9.length:Int) then (if x7.length < 17592186044416 then (lU.l0 k (x7 ++ [wrap64 (Int.tdiv (wrap64 (1 - (rd k9 aqz))) 2)]) k9 qt (wrap64 (aqz+1)) fG eH) else (none)) else (none)) else (none)) else ((jT.f k fG eH 2 x7).bind fun fM=>(some (fM.1,fM.2.1,fM.2.2.1,fM.2.2.2,0)))
def lU.f (k:Nat) (ah:Int) (af:List (List Int)) (l1:List Int):Option (Int × (List (List Int)) × Int × (List (List Int)) × Int):=(wO.f k ah af ah af l1).bind fun t104=>(if t104=0 then (lU.l0 k (([]:List Int)) l1 (l1.length:Int) 0 ah af) else (some (0,([]:List (List Int)),0,([]:List (List Int)),t104)))
theorem lU.split (k : Nat) (ah : Int) (aT : Option Addr) (aoW : Nat) (af : List (List Int)) (A1 : Option Addr) (c1 : Nat) (l1 : List Int) (r1 : Int) (r2 : List (List Int)) (r3 : Int) (r4 : List (List Int)) (r5 : Int) (w : World) (cR : Kd.C (Kd.slice 2 (Kd.int .i64)) w aT af.length af) (cX : af.length ≤ aoW) (fY : Kd.C (Kd.int .i64) w A1 l1.length l1) (gi : l1.length ≤ c1) (h : lU.f k ah af l1 = some (r1, r2, r3, r4, r5)) :
  Calls Try.prog 56 #[.agg #[.int .i64 ah,.slice aT af.length aoW],.slice A1 l1.length c1] w fun e w'=>∃ eM ny:Value,∃ m_:Nat,e=.returned (.tuple #[.agg #[.int .i64 r1,eM,.int .i64 r3,ny],.int .i64 r5])∧Kd.S (Kd.slice 2 (Kd.int .i64)) 28 w' w.heap.size (fun k_=>k_ < m_) eM r2∧Kd.S (Kd.slice 2 (Kd.int .i64)) 28 w' w.heap.size (fun k_=>m_≤k_) ny r4∧Below w.heap.size w w':=by
 have iX:=Try.underlying31
 have wo:=Try.underlying33
 have ao6:=k0 cR
 have cV:=k0 cX
 clear cR cX
 have gq:=k0 fY
 have lD:=k0 gi
 clear fY gi
 have HB:=k0 (Below.refl w.heap.size w)
 have H:((wO.f k ah af ah af l1).bind fun t104=>(if t104=0 then (lU.l0 k (([]:List Int)) l1 (l1.length:Int) 0 ah af) else (some (0,([]:List (List Int)),0,([]:List (List Int)),t104))))=some (r1,r2,r3,r4,r5):=h
 clear h
 replace H:=Option.bind_eq_some_iff.mp H
 obtain ⟨t104,fJ,H⟩:=H
 replace H:(if t104=0 then (lU.l0 k (([]:List Int)) l1 (l1.length:Int) 0 ah af) else (some (0,([]:List (List Int)),0,([]:List (List Int)),t104)))=some (r1,r2,r3,r4,r5):=H
 have A3:=k0 fJ
 clear fJ
 by_cases c4:t104=0
 case neg =>
  rw [if_neg c4] at H
  have fX:(t104 == 0)=false:=beq_eq_false_iff_ne.mpr c4
  have qa:(t104 != 0)=true:=bne_iff_ne.mpr c4
  simp only [Option.some.injEq,Prod.mk.injEq] at H
  obtain ⟨rfl,rfl,rfl,rfl,rfl⟩:=H
  go_enter Try.func56,Try.ntmps56
  go_wp2_with (first|((with_reducible refine bp (N:=2) rfl ?_);refine bR 2 #[.int .i64 ah,.slice aT af.length aoW] 31 ?_;intro aoV hg CP aE hb;have aa:=k0 (aE);have bB:=gW hg (aoS bl);have aX:=bB;replace HB:=k0 (aH bl hb);clear hb aE hg)|((with_reducible refine bp (N:=3) rfl ?_);refine bR 3 #[.slice A1 l1.length c1] 28 ?_;intro ct hg CQ aE hb;have ak:=k0 (aE);have fA:=gW hg (aoS bl);have fy:=fA;replace HB:=k0 (aH bl hb);have cP:=nL hg aa;have dJ:=nG cP;replace aa:=kB aa hb;clear hb aE hg)|((with_reducible refine bp (N:=4) rfl ?_);refine bR 4 #[.int .i64 0,.slice none 0 0,.int .i64 0,.slice none 0 0] 33 ?_;intro nk hg xH aE hb;have aq:=kB aa hb;have au:=kB ak hb;have ax:=k0 (aH bl hb);have aA:=k0 (aE);have aG:=k0 ((by rw [hg];exact (aoS bl):w.heap.size≤nk));have aM:=k0 ((by rw [hg];exact (aoS bl):w.heap.size≤nk));have bu:=nL hg aa;have cE:=nG bu;have ao8:=nL hg ak;have cG:=nG ao8;clear aa;clear ak;clear HB;have aa:=aq;have ak:=au;have HB:=ax;have ao7:=aA;have I5:=aG;have I3:=aM;have nX:=bu;have rW:=cE;have oL:=ao8;have sX:=cG;clear aq au ax aA aG aM bu cE ao8 cG;clear hb aE hg;have ab6:=cP.z;have acw:=dJ.z;have Lx:=nX.z;have LB:=rW.z;have GH:=aQ aa;have GI:=aoT aa;have GS:=bF aa 0;have GU:=bF aa 1)|((with_reducible refine bg (f:=125) rfl ?_);refine gC (some 12) Try.func125 #[.agg #[.int .i64 ah,.slice aT af.length aoW],.func (.func 138) #[] #[.pointer (some ⟨aoV,0,none⟩),.pointer (some ⟨ct,0,none⟩)]] ?_;(with_reducible refine (wO.calls k ah _ _ af ah aT aoW af A1 c1 l1 t104 _ ?aoN ?aoP ?bA ?bH ?apC ?aqc ?vk ?xB A3.z).mono ?_);(case aoN=>exact aC (Kd.ao4 ao6.z HB.z));(case aoP=>exact cV.z);(case bA=>exact aC (Kd.ao4 ao6.z HB.z));(case bH=>exact cV.z);(case apC=>exact aC (Kd.ao4 gq.z HB.z));(case aqc=>exact lD.z);(case vk=>exact by exact bk);(case xB=>exact by exact bk);rintro e aqH ⟨rfl,hb⟩;refine ⟨_,rfl,?_⟩;have aq:=kB aa hb;have au:=kB ak hb;have ax:=kB ao7 hb;have aA:=k0 (aH bl hb);clear aa;clear ak;clear ao7;clear HB;have aa:=aq;have ak:=au;have ao7:=ax;have HB:=aA;clear aq au ax aA;have Ly:=sX.z;have LC:=oL.z;have KT:=aQ ao7;have KU:=aoT ao7;have aaQ:=ao_ ao7;have aaR:=ec ao7;have Le:=bF ao7 0;have Lf:=bF ao7 1;have abC:=bF ao7 2;have abD:=bF ao7 3))
  refine bodyPost_ret (apP rfl _ _ nk 33 #[.int .i64 0,.slice none 0 0,.int .i64 0,.slice none 0 0] (0,0) _ rfl (by (with_reducible repeat (first|refine aoU ?_ _|refine aJ ?_|refine aoQ ?_ _));refine bE (cs:=#[.int .i64 0,.slice none 0 0,.int .i64 0,.slice none 0 0]) ?_ 3 _ rfl;(with_reducible repeat (first|refine aoU ?_ _|refine aJ ?_|refine aoQ ?_ _));refine bE (cs:=#[.int .i64 0,.slice none 0 0,.int .i64 0,.slice none 0 0]) ?_ 2 _ rfl;(with_reducible repeat (first|refine aoU ?_ _|refine aJ ?_|refine aoQ ?_ _));refine bE (cs:=#[.int .i64 0,.slice none 0 0,.int .i64 0,.slice none 0 0]) ?_ 1 _ rfl;(with_reducible repeat (first|refine aoU ?_ _|refine aJ ?_|refine aoQ ?_ _));refine bE (cs:=#[.int .i64 0,.slice none 0 0,.int .i64 0,.slice none 0 0]) ?_ 0 _ rfl;exact bk) Try.underlying33 rfl (by kernel_rfl)) rfl ?_
  exact ⟨_,_,0,eR,by first|exact Kd.lf _ _ _ _ _|exact Kd.lG _ _ _ _ _|exact Kd.apy _ _ _ _ _|exact Kd.lH _ _ _ _ _|exact Kd.kO _ _ _ _ _,by first|exact Kd.lf _ _ _ _ _|exact Kd.lG _ _ _ _ _|exact Kd.apy _ _ _ _ _|exact Kd.lH _ _ _ _ _|exact Kd.kO _ _ _ _ _,bl⟩
 rw [if_pos c4] at H
 have fX:(t104 == 0)=true:=beq_iff_eq.mpr c4
 have qa:(t104 != 0)=false:=bne_eq_false_iff_eq.mpr c4
 clear c4
 obtain ⟨vw,uP⟩:∃ y_:List Int,y_=(([]:List Int)):=⟨_,rfl⟩
 replace H:(lU.l0 k vw l1 (l1.length:Int) 0 ah af)=some (r1,r2,r3,r4,r5):=rH uP H
 have yd:=k0 uP
 clear uP
 have H':=k0 H
 clear H
 go_enter Try.func56,Try.ntmps56
 go_wp2_with (first|((with_reducible refine bp (N:=2) rfl ?_);refine bR 2 #[.int .i64 ah,.slice aT af.length aoW] 31 ?_;intro aoV hg w5 aE hb;have aa:=k0 (aE);have bB:=gW hg (aoS bl);have aX:=bB;replace HB:=k0 (aH bl hb);clear hb aE hg)|((with_reducible refine bp (N:=3) rfl ?_);refine bR 3 #[.slice A1 l1.length c1] 28 ?_;intro ct hg w6 aE hb;have ak:=k0 (aE);have fA:=gW hg (aoS bl);have fy:=fA;replace HB:=k0 (aH bl hb);have cP:=nL hg aa;have dJ:=nG cP;replace aa:=kB aa hb;clear hb aE hg)|((with_reducible refine bp (N:=4) rfl ?_);refine bR 4 #[.int .i64 0,.slice none 0 0,.int .i64 0,.slice none 0 0] 33 ?_;intro nk hg w7 aE hb;have aq:=kB aa hb;have au:=kB ak hb;have ax:=k0 (aH bl hb);have aA:=k0 (aE);have aG:=k0 ((by rw [hg];exact (aoS bl):w.heap.size≤nk));have aM:=k0 ((by rw [hg];exact (aoS bl):w.heap.size≤nk));have bu:=nL hg aa;have cE:=nG bu;have ao8:=nL hg ak;have cG:=nG ao8;clear aa;clear ak;clear HB;have aa:=aq;have ak:=au;have HB:=ax;have ao7:=aA;have I5:=aG;have I3:=aM;have nX:=bu;have rW:=cE;have oL:=ao8;have sX:=cG;clear aq au ax aA aG aM bu cE ao8 cG;clear hb aE hg;have Cb:=cP.z;have Cd:=dJ.z;have Cc:=nX.z;have Ce:=rW.z;have uD:=aQ aa;have uE:=aoT aa;have uF:=bF aa 0;have uG:=bF aa 1)|((with_reducible refine bg (f:=125) rfl ?_);refine gC (some 12) Try.func125 #[.agg #[.int .i64 ah,.slice aT af.length aoW],.func (.func 138) #[] #[.pointer (some ⟨aoV,0,none⟩),.pointer (some ⟨ct,0,none⟩)]] ?_;(with_reducible refine (wO.calls k ah _ _ af ah aT aoW af A1 c1 l1 t104 _ ?aoN ?aoP ?bA ?bH ?apC ?aqc ?vk ?xB A3.z).mono ?_);(case aoN=>exact aC (Kd.ao4 ao6.z HB.z));(case aoP=>exact cV.z);(case bA=>exact aC (Kd.ao4 ao6.z HB.z));(case bH=>exact cV.z);(case apC=>exact aC (Kd.ao4 gq.z HB.z));(case aqc=>exact lD.z);(case vk=>exact by exact bk);(case xB=>exact by exact bk);rintro e vp ⟨rfl,hb⟩;refine ⟨_,rfl,?_⟩;have aq:=kB aa hb;have au:=kB ak hb;have ax:=kB ao7 hb;have aA:=k0 (aH bl hb);clear aa;clear ak;clear ao7;clear HB;have aa:=aq;have ak:=au;have ao7:=ax;have HB:=aA;clear aq au ax aA;)|((with_reducible refine bp (N:=17) rfl ?_);refine Kd.jr (Kd.int .i64) _ 2 ?hg (N:=17) ?hd (xs:=([]:List Int)) (inner:=[]) (ok:=fun _=>True) (b_:=fun _=>True) ?hr ?hp (fun _ hk=>hk) trivial (Below.refl _ _) (Nat.le_refl _) (by simp) ?_;(case hd=>rfl);(case hg=>rfl);(case hr=>first|(go_simp;done)|(go_simp;rfl));(case hp=>exact (bh.none _ _));intro vn vq oP hb cJ cK;clear cJ cK;(first|rw [← yd.z] at oP|(simp only [Int.reduceToNat] at oP;rw [← yd.z] at oP));have aq:=k0 (Kd.cU oP (aoS bl));have au:=kB aa hb;have ax:=kB ak hb;have aA:=kB ao7 hb;have aG:=k0 (aH bl hb);clear aa;clear ak;clear ao7;clear HB;have eP:=aq;have aa:=au;have ak:=ax;have ao7:=aA;have HB:=aG;clear aq au ax aA aG;clear hb oP;have R3:=oL.z;have Sf:=sX.z;have aaB:=aQ ak;have abm:=bF ak 0))
 go_loopg [7,20] k (fun kq v7 v20 w'=>∃ (cy:List Int) (sJ:Int),v20=.int .i64 sJ∧aj (lU.l0 kq cy l1 (l1.length:Int) sJ ah af=some (r1,r2,r3,r4,r5))∧aj (kq≤k)∧aj (Kd.R (Kd.int .i64) 2 w' w.heap.size (fun _=>True) v7 cy)∧aj (w'.heap[aoV]?=some (sO ah aT af aoW 31))∧aj (w'.heap[ct]?=some (.cells #[(.slice A1 l1.length c1)] 28 (0,0)))∧aj (w'.heap[nk]?=some (.cells #[.int .i64 0,(.slice none 0 0),.int .i64 0,(.slice none 0 0)] 33 (0,0)))∧aj (Below w.heap.size w w'))
 case atStart=>exact ⟨(vw),(0),rs,H',⟨Nat.le_refl _⟩,⟨aR (eP.z)⟩,⟨bk⟩,⟨bk⟩,⟨bk⟩,⟨bl⟩⟩
 case round =>
  clear H'
  obtain ⟨cy,sJ,rfl,HA,bx,apm,aa,ak,ao7,HB⟩:=hrel
  cases gk with
  | zero=>exact absurd HA.z (by simp [lU.l0])
  | succ k1 =>
   have H:=HA.z
   clear HA
   simp only [lU.l0] at H
   by_cases c16:sJ < (l1.length:Int)
   case neg =>
    rw [if_neg c16] at H
    have qK:decide (sJ < (l1.length:Int))=false:=decide_eq_false c16
    clear c16
    replace H:=Option.bind_eq_some_iff.mp H
    obtain ⟨⟨t112,t113,t116,t117⟩,C1,H⟩:=H
    replace H:(some (t112,t113,t116,t117,0))=some (r1,r2,r3,r4,r5):=H
    have IK:=k0 C1
    clear C1
    simp only [Option.some.injEq,Prod.mk.injEq] at H
    obtain ⟨rfl,rfl,rfl,rfl,rfl⟩:=H
    have ab4:=cP.z
    have acu:=dJ.z
    have R8:=nX.z
    have Sk:=rW.z
    have KL:=aQ aa
    have KM:=aoT aa
    have K7:=bF aa 0
    have K8:=bF aa 1
    obtain ⟨UT,Yq,Zo⟩:=Kd.dM apm.z
    subst Zo
    go_wp2_with (first|((with_reducible refine bg (f:=139) rfl ?_);refine gC (some 33) Try.func139 #[.agg #[.int .i64 ah,.slice aT af.length aoW],.int .i64 2,.slice UT cy.length Yq] ?_;(with_reducible refine (jT.split k1 ah _ _ af 2 _ _ cy t112 t113 t116 t117 _ ?aoN ?aoP ?bA ?bH IK.z).mono ?_);(case aoN=>exact aC (Kd.ao4 ao6.z HB.z));(case aoP=>exact cV.z);(case bA=>exact aC ((Kd.cx apm.z).2.2));(case bH=>exact (Kd.cx apm.z).2.1);rintro e aqF ⟨Fm,T_,m_,rfl,aD,mA,hb⟩;refine ⟨_,rfl,?_⟩;have aq:=k0 (Kd.apn (aR apm.z) hb);have au:=k0 (Kd.ig (Kd.JI (Kd.kP aD (Kd.bT (aR apm.z))) (aB ak.z)) (aoS bl));have ax:=k0 (Kd.ig (Kd.JI (Kd.kP mA (Kd.bT (aR apm.z))) (aB ak.z)) (aoS bl));have aA:=kB aa hb;have aG:=kB ak hb;have aM:=kB ao7 hb;have bu:=k0 (aH bl hb);clear apm;clear aa;clear ak;clear ao7;clear HB;have apm:=aq;have lF:=au;have Bo:=ax;have aa:=aA;have ak:=aG;have ao7:=aM;have HB:=bu;clear aq au ax aA aG aM bu;have R_:=sX.z;have Sm:=oL.z;have KR:=aQ ao7;have KS:=aoT ao7;have aiq:=ao_ ao7;have air:=ec ao7;have Lc:=bF ao7 0;have Ld:=bF ao7 1;have akA:=bF ao7 2;have akB:=bF ao7 3;obtain ⟨api,gJ,yw⟩:=Kd.apc lF.z;subst yw;obtain ⟨hU,gK,aqe⟩:=Kd.apc Bo.z;subst aqe))
    refine bodyPost_ret (apP rfl _ _ nk 33 #[.int .i64 t112,.slice api t113.length gJ,.int .i64 t116,.slice hU t117.length gK] (0,0) _ rfl (by (with_reducible repeat (first|refine aoU ?_ _|refine aJ ?_|refine aoQ ?_ _));refine bE (cs:=#[.int .i64 t112,.slice api t113.length gJ,.int .i64 t116,.slice none 0 0]) ?_ 3 _ rfl;(with_reducible repeat (first|refine aoU ?_ _|refine aJ ?_|refine aoQ ?_ _));refine bE (cs:=#[.int .i64 t112,.slice api t113.length gJ,.int .i64 0,.slice none 0 0]) ?_ 2 _ rfl;(with_reducible repeat (first|refine aoU ?_ _|refine aJ ?_|refine aoQ ?_ _));refine bE (cs:=#[.int .i64 t112,.slice none 0 0,.int .i64 0,.slice none 0 0]) ?_ 1 _ rfl;(with_reducible repeat (first|refine aoU ?_ _|refine aJ ?_|refine aoQ ?_ _));refine bE (cs:=#[.int .i64 0,.slice none 0 0,.int .i64 0,.slice none 0 0]) ?_ 0 _ rfl;exact bk) Try.underlying33 rfl (by kernel_rfl)) rfl ?_
    exact ⟨_,_,m_,eR,by (with_reducible repeat (first|apply Kd.cM|apply Kd.cI|apply Kd.cr));exact Kd.bq (gS 3 (.slice hU t117.length gK) (gS 2 (.int .i64 t116) (gS 1 (.slice api t113.length gJ) (gS 0 (.int .i64 t112) (tS lF ao7))))) (fun _ hk=>hk.1.1.1),by (with_reducible repeat (first|apply Kd.cM|apply Kd.cI|apply Kd.cr));exact Kd.bq (gS 3 (.slice hU t117.length gK) (gS 2 (.int .i64 t116) (gS 1 (.slice api t113.length gJ) (gS 0 (.int .i64 t112) (tS Bo ao7))))) (fun _ hk=>hk.1.1.1),bl⟩
   rw [if_pos c16] at H
   have qK:=decide_eq_true c16
   clear c16
   replace H:=iS H;obtain ⟨c17,H⟩:=H
   have ur:=decide_eq_true c17
   clear c17
   replace H:=iS H;obtain ⟨c18,H⟩:=H
   have apY:=decide_eq_true c18
   clear c18
   replace H:=iS H;obtain ⟨c19,H⟩:=H
   have Wa:=k0 c19
   clear c19
   obtain ⟨mW,om⟩:∃ y_:List Int,y_=(cy ++ [wrap64 (Int.tdiv (wrap64 (1 - (rd l1 sJ))) 2)]):=⟨_,rfl⟩
   replace H:(lU.l0 k1 mW l1 (l1.length:Int) (wrap64 (sJ+1)) ah af)=some (r1,r2,r3,r4,r5):=rH om H
   have sZ:=k0 om
   clear om
   have H':=k0 H
   clear H
   have iw:0≤(sJ:Int):=oD
   have iy:sJ < (l1.length:Int):=oD
   obtain ⟨qG,e108,ij⟩:=Kd.cN gq.z sJ iw iy
   cases e108
   replace ij:=hbc HB ij
   replace iw:=eq_true iw
   replace iy:=eq_true iy
   go_wp2_with (first|((with_reducible refine kQ (b:=.append) (xs:=#[.tmp 24,.tmp 28]) rfl ?_);at_builtin;refine Kd.p9 (Kd.int .i64) (w0:=w) w.heap.size rfl (.tmp 24) (.tmp 28) 28 2 (.int .i64 0) 8 rfl Try.underlying28 mR rfl (by decide) (by omega) u7 cy (wrap64 (Int.tdiv (wrap64 (1 - (rd l1 sJ))) 2)) [.int .i64 (wrap64 (Int.tdiv (wrap64 (1 - (rd l1 sJ))) 2))] (fun _=>True) (fun _=>False) rfl rfl ?aP (fun _ hk=>hk.elim) ?aF ?aO ?aB ?aS ?aL ?_;(case aP=>exact rfl);(case aB=>exact bl);(case aF=>exact (fun _ _=>trivial));(case aO=>exact (aR apm.z));(case aS=>exact (aoS bl));(case aL=>have:=Wa.out;omega);intro wD aqf ho hb hg ao1;rw [← sZ.z] at ho;have aq:=k0 (fl (aB aa.z) hg (Kd.kr apm.z aa.z (by decide)));have au:=k0 (fl (aB ak.z) hg (Kd.kr apm.z ak.z (by decide)));have ax:=k0 (fl (aB ao7.z) hg (Kd.kr apm.z ao7.z (by decide)));have aA:=k0 (hb);have aG:=k0 (ho);clear aa;clear ak;clear ao7;clear HB;clear apm;have aa:=aq;have ak:=au;have ao7:=ax;have HB:=aA;have nT:=aG;clear aq au ax aA aG;clear ho hb hg ao1))
   go_roundg k1
   case measure=>have:=bx.z;omega
   case rel=>exact ⟨(mW),(wrap64 (sJ+1)),rs,H',⟨by have:=bx.z;omega⟩,⟨aR (nT.z)⟩,⟨bk⟩,⟨bk⟩,⟨bk⟩,⟨bl⟩⟩
theorem lU.calls (k : Nat) (ah : Int) (aT : Option Addr) (aoW : Nat) (af : List (List Int)) (A1 : Option Addr) (c1 : Nat) (l1 : List Int) (r1 : Int) (r2 : List (List Int)) (r3 : Int) (r4 : List (List Int)) (r5 : Int) (w : World) (cR : Kd.C (Kd.slice 2 (Kd.int .i64)) w aT af.length af) (cX : af.length ≤ aoW) (fY : Kd.C (Kd.int .i64) w A1 l1.length l1) (gi : l1.length ≤ c1) (h : lU.f k ah af l1 = some (r1, r2, r3, r4, r5)) :
  Calls Try.prog 56 #[.agg #[.int .i64 ah,.slice aT af.length aoW],.slice A1 l1.length c1] w fun e w'=>∃ eM ny:Value,e=.returned (.tuple #[.agg #[.int .i64 r1,eM,.int .i64 r3,ny],.int .i64 r5])∧Kd.S (Kd.slice 2 (Kd.int .i64)) 28 w' w.heap.size (fun k_=>some k_ ≠ (ny:Value).ownBlock) eM r2∧Kd.S (Kd.slice 2 (Kd.int .i64)) 28 w' w.heap.size (fun k_=>some k_ ≠ (eM:Value).ownBlock) ny r4∧Below w.heap.size w w' :=
 (lU.split k ah aT aoW af A1 c1 l1 r1 r2 r3 r4 r5 w cR cX fY gi h).mono fun e w' ⟨v1,v3,m,h0,h1,h2,hb⟩=>⟨v1,v3,h0,Kd.bq h1 (fun k_ hk e_=>Nat.lt_irrefl _ (Nat.lt_of_lt_of_le hk ((Kd.qF h2).1 k_ e_.symm))),Kd.bq h2 (fun k_ hk e_=>Nat.lt_irrefl _ (Nat.lt_of_lt_of_le ((Kd.qF h1).1 k_ e_.symm) hk)),hb⟩
end Go.Proofs.Ytoebojnhchocaaa.E
/- Set with little white space, by a program. -/
