/- The functions that one law reaches, each as a Lean function, and that Go's call comes to what it says. Condition of each: that the Lean function answers (is not none). -/
import Derived.Test.YtoebojnhchocaaaEx0
import Derived.Test.YtoebojnhchocaaaEx3
import Derived.Test.YtoebojnhchocaaaEx6
import Derived.Test.YtoebojnhchocaaaEx8
namespace Go.Proofs.Ytoebojnhchocaaa.E
open Go.RowKit Go.Proofs.bY.apf Go.Proofs.bY.ko Go.Proofs.bY.kN
attribute [local go_sem] max2_int min2_int max_two min_two max_three min_three max_four min_four   -- for this text's walks alone
set_option linter.unusedVariables false
set_option linter.unusedSimpArgs false
set_option maxHeartbeats 8000000
set_option maxRecDepth 100000
/-! ### F17: function 17 -/
def l9.f (k:Nat) (ah:Int) (af:List (List Int)) (bM:Int) (bL:List (List Int)):Option (List Int × Int):=(wS.f k ah af bM bL).bind fun ao2=>(if ao2.2.2=0 then ((apD.f k ao2.1 ao2.2.1).bind fun t108=>((apD.f k ah af).bind fun t111=>((dz.f k t108 t111).bind fun eS=>(some (eS.1,eS.2))))) else (some (([]:List Int),ao2.2.2)))
def l9.T4:Bool × List (List Nat × List Nat):=(true,[([],[]),([0],[0]),([],[]),([2],[2]),([3,1],[3]),([1,4,4],[1,4]),([5],[5]),([5],[5]),([6,5,0,1,2,3,4,5,6,7],[6]),([7,8,0,1,2,3,4,5,6,7,8],[7])])
def l9.B4:List Nat:=[0,1,0,4,15,31,63,63,255,511]
theorem l9.afx:iP .any (opsOf Try.f17 4)=l9.T4:=by kernel_rfl
theorem l9.Xt:nA l9.T4.2 l9.B4=true:=by kernel_rfl
theorem l9.calls (k : Nat) (ah : Int) (aT : Option Addr) (aoW : Nat) (af : List (List Int)) (bM : Int) (fV : Option Addr) (fT : Nat) (bL : List (List Int)) (r1 : List Int) (r2 : Int) (w : World) (cR : Kd.C (Kd.slice 2 (Kd.int .i64)) w aT af.length af) (cX : af.length ≤ aoW) (apV : Kd.C (Kd.slice 2 (Kd.int .i64)) w fV bL.length bL) (rB : bL.length ≤ fT) (h : l9.f k ah af bM bL = some (r1, r2)) :
  Calls Try.prog 17 #[.agg #[.int .i64 ah,.slice aT af.length aoW,.int .i64 bM,.slice fV bL.length fT]] w fun e w'=>∃ eE:Value,e=.returned (.tuple #[eE,.int .i64 r2])∧Kd.R (Kd.int .i64) 2 w' w.heap.size (fun _=>True) eE r1∧Below w.heap.size w w':=by
 have wo:=Try.underlying33
 have iX:=Try.underlying31
 have ao6:=k0 cR
 have cV:=k0 cX
 clear cR cX
 have pq:=k0 apV
 have apJ:=k0 rB
 clear apV rB
 have HB:=k0 (Below.refl w.heap.size w)
 have H:((wS.f k ah af bM bL).bind fun ao2=>(if ao2.2.2=0 then ((apD.f k ao2.1 ao2.2.1).bind fun t108=>((apD.f k ah af).bind fun t111=>((dz.f k t108 t111).bind fun eS=>(some (eS.1,eS.2))))) else (some (([]:List Int),ao2.2.2))))=some (r1,r2):=h
 clear h
 replace H:=Option.bind_eq_some_iff.mp H
 obtain ⟨⟨t102,t103,t106⟩,fI,H⟩:=H
 replace H:(if t106=0 then ((apD.f k t102 t103).bind fun t108=>((apD.f k ah af).bind fun t111=>((dz.f k t108 t111).bind fun eS=>(some (eS.1,eS.2))))) else (some (([]:List Int),t106)))=some (r1,r2):=H
 have A2:=k0 fI
 clear fI
 by_cases c3:t106=0
 case neg =>
  rw [if_neg c3] at H
  have jd:(t106 == 0)=false:=beq_eq_false_iff_ne.mpr c3
  have oc:(t106 != 0)=true:=bne_iff_ne.mpr c3
  simp only [Option.some.injEq,Prod.mk.injEq] at H
  obtain ⟨rfl,rfl⟩:=H
  go_enter Try.func17,Try.ntmps17
  go_wp2_with (first|((with_reducible refine bp (N:=1) rfl ?_);refine bR 1 #[.int .i64 ah,.slice aT af.length aoW,.int .i64 bM,.slice fV bL.length fT] 33 ?_;intro aoV hg CN aE hb;have aa:=k0 (aE);have bB:=gW hg (aoS bl);have aX:=bB;replace HB:=k0 (aH bl hb);clear hb aE hg;have KJ:=aQ aa;have KK:=aoT aa;have aaI:=ao_ aa;have aaJ:=ec aa;have K5:=bF aa 0;have K6:=bF aa 1;have abu:=bF aa 2;have abv:=bF aa 3)|((with_reducible refine bg (f:=84) rfl ?_);refine gC (some 8) Try.func84 #[.agg #[.int .i64 ah,.slice aT af.length aoW,.int .i64 bM,.slice fV bL.length fT]] ?_;(with_reducible refine (wS.calls k ah _ _ af bM _ _ bL t102 t103 t106 _ ?aoN ?aoP ?bA ?bH A2.z).mono ?_);(case aoN=>exact aC (Kd.ao4 ao6.z HB.z));(case aoP=>exact cV.z);(case bA=>exact aC (Kd.ao4 pq.z HB.z));(case bH=>exact apJ.z);rintro e CO ⟨tI,rfl,aD,hb⟩;refine ⟨_,rfl,?_⟩;have apd:=k0 (Kd.ig aD (aoS bl));replace aa:=kB aa hb;replace HB:=k0 (aH bl hb);)|((with_reducible refine bp (N:=4) rfl ?_);refine bR 4 #[.int .i64 0,.slice none 0 0] 31 ?_;intro j6 hg Fs aE hb;replace apd:=k0 (Kd.gB (aS apd.z) hb);have di:=k0 (aE);have FN:=gW hg (aoS bl);have Oa:=FN;replace HB:=k0 (aH bl hb);have p8:=nL hg aa;have zB:=nG p8;replace aa:=kB aa hb;clear hb aE hg;have G_:=zB.z;have Hg:=p8.z;have KN:=aQ di;have KO:=aoT di;have K9:=bF di 0;have K_:=bF di 1;obtain ⟨IQ,Gn,BN⟩:=Kd.apc apd.z;subst BN))
  go_ret2
  exact ⟨_,eR,by first|exact Kd.kO _ _ _ _ _|exact Kd.lG _ _ _ _ _|exact Kd.apy _ _ _ _ _|exact Kd.lH _ _ _ _ _|exact Kd.lf _ _ _ _ _,bl⟩
 rw [if_pos c3] at H
 have jd:(t106 == 0)=true:=beq_iff_eq.mpr c3
 have oc:(t106 != 0)=false:=bne_eq_false_iff_eq.mpr c3
 clear c3
 replace H:=Option.bind_eq_some_iff.mp H
 obtain ⟨t108,fu,H⟩:=H
 replace H:((apD.f k ah af).bind fun t111=>((dz.f k t108 t111).bind fun eS=>(some (eS.1,eS.2))))=some (r1,r2):=H
 have A4:=k0 fu
 clear fu
 replace H:=Option.bind_eq_some_iff.mp H
 obtain ⟨t111,kC,H⟩:=H
 replace H:((dz.f k t108 t111).bind fun eS=>(some (eS.1,eS.2)))=some (r1,r2):=H
 have A5:=k0 kC
 clear kC
 replace H:=Option.bind_eq_some_iff.mp H
 obtain ⟨⟨t114,t117⟩,kX,H⟩:=H
 replace H:(some (t114,t117))=some (r1,r2):=H
 have A6:=k0 kX
 clear kX
 simp only [Option.some.injEq,Prod.mk.injEq] at H
 obtain ⟨rfl,rfl⟩:=H
 go_enter Try.func17,Try.ntmps17
 try go_wp2_with (first|((with_reducible refine bp (N:=1) rfl ?_);refine bR 1 #[.int .i64 ah,.slice aT af.length aoW,.int .i64 bM,.slice fV bL.length fT] 33 ?_;intro aoV hg w7 aE hb;have aa:=k0 (aE);have bB:=gW hg (aoS bl);have aX:=bB;replace HB:=k0 (aH bl hb);clear hb aE hg;have BX:=aQ aa;have BZ:=aoT aa;have ajF:=ao_ aa;have ajG:=ec aa;have B7:=bF aa 0;have aqR:=bF aa 1;have alR:=bF aa 2;have alS:=bF aa 3)|((with_reducible refine bg (f:=84) rfl ?_);refine gC (some 8) Try.func84 #[.agg #[.int .i64 ah,.slice aT af.length aoW,.int .i64 bM,.slice fV bL.length fT]] ?_;(with_reducible refine (wS.calls k ah _ _ af bM _ _ bL t102 t103 t106 _ ?aoN ?aoP ?bA ?bH A2.z).mono ?_);(case aoN=>exact aC (Kd.ao4 ao6.z HB.z));(case aoP=>exact cV.z);(case bA=>exact aC (Kd.ao4 pq.z HB.z));(case bH=>exact apJ.z);rintro e w9 ⟨tI,rfl,aD,hb⟩;refine ⟨_,rfl,?_⟩;have apd:=k0 (Kd.ig aD (aoS bl));replace aa:=kB aa hb;replace HB:=k0 (aH bl hb);)|((with_reducible refine bp (N:=4) rfl ?_);refine bR 4 #[.int .i64 0,.slice none 0 0] 31 ?_;intro j6 hg mH aE hb;replace apd:=k0 (Kd.gB (aS apd.z) hb);have di:=k0 (aE);have FN:=gW hg (aoS bl);have Oa:=FN;replace HB:=k0 (aH bl hb);have p8:=nL hg aa;have zB:=nG p8;replace aa:=kB aa hb;clear hb aE hg;have R1:=zB.z;have Sd:=p8.z;have KH:=aQ di;have KI:=aoT di;have K3:=bF di 0;have K4:=bF di 1;obtain ⟨iQ,iF,xg⟩:=Kd.apc apd.z;subst xg))
 have aq:aj (Kd.S (Kd.slice 2 (Kd.int .i64)) 28 ((mH.setCell ⟨j6,0,none⟩ (.int .i64 t102)).setCell ⟨j6,1,none⟩ (.slice iQ t103.length iF)) w.heap.size (fun _=>True) (.slice iQ t103.length iF) t103):=⟨aS (Kd.bq (gS 1 (.slice iQ t103.length iF) (gS 0 (.int .i64 t102) (tS apd di))) (fun _ hk=>trivial))⟩
 have au:aj (((mH.setCell ⟨j6,0,none⟩ (.int .i64 t102)).setCell ⟨j6,1,none⟩ (.slice iQ t103.length iF)).heap[aoV]?=some (.cells #[.int .i64 ah,.slice aT af.length aoW,.int .i64 bM,.slice fV bL.length fT] 33 (0,0))):=⟨by (with_reducible repeat (first|refine aoU ?_ _|refine aJ ?_|refine aoQ ?_ _));refine bW ?_ p8.z _;(with_reducible repeat (first|refine aoU ?_ _|refine aJ ?_|refine aoQ ?_ _));refine bW ?_ p8.z _;exact bk⟩
 have ax:aj (((mH.setCell ⟨j6,0,none⟩ (.int .i64 t102)).setCell ⟨j6,1,none⟩ (.slice iQ t103.length iF)).heap[j6]?=some (sO t102 iQ t103 iF 31)):=⟨by (with_reducible repeat (first|refine aoU ?_ _|refine aJ ?_|refine aoQ ?_ _));refine bE (cs:=#[.int .i64 t102,.slice none 0 0]) ?_ 1 _ rfl;(with_reducible repeat (first|refine aoU ?_ _|refine aJ ?_|refine aoQ ?_ _));refine bE (cs:=#[.int .i64 0,.slice none 0 0]) ?_ 0 _ rfl;exact bk⟩
 have aA:aj (Below w.heap.size w ((mH.setCell ⟨j6,0,none⟩ (.int .i64 t102)).setCell ⟨j6,1,none⟩ (.slice iQ t103.length iF))):=⟨bl⟩
 generalize ((mH.setCell ⟨j6,0,none⟩ (.int .i64 t102)).setCell ⟨j6,1,none⟩ (.slice iQ t103.length iF))=tL at aq au ax aA ⊢
 have apd:=aq
 have aa:=au
 have di:=ax
 have HB:=aA
 clear aq au ax aA
 replace apd:=k0 (Kd.cr apd.z);replace aa:=k0 (aJ aa.z);replace di:=k0 (aJ di.z);replace HB:=k0 (aZ HB.z)
 refine apA (n:=10) (S:=fun w'=>w'.cell? ⟨j6,0,none⟩=some (.int .i64 t102)∧w'.cell? ⟨j6,1,none⟩=some (.slice iQ t103.length iF)∧w'.cell? ⟨aoV,0,none⟩=some (.int .i64 ah)∧w'.cell? ⟨aoV,1,none⟩=some (.slice aT af.length aoW)∧w'.cell? ⟨aoV,2,none⟩=some (.int .i64 bM)∧w'.cell? ⟨aoV,3,none⟩=some (.slice fV bL.length fT)) (ds:=[]) (ba 10 0) (by kernel_rfl) rfl rfl ⟨aQ di,aoT di,aQ aa,aoT aa,ao_ aa,ec aa⟩ (fun hHeld=>?_);refine nB l9.afx l9.Xt (fun az dA=>?_)
 generalize tL.drew=qq at apd aa di HB hHeld ⊢
 refine pu 2 (some 16) (ba 10 4) az (h:=?_)
 refine ta 0 (some 14) (ba 10 5) az dA hHeld (hy:=Or.inl ⟨by rfl,by rintro w' ⟨s0,s1,s2,s3,s4,s5⟩;go_simp;with_reducible rfl⟩) (h:=?_)
 refine ta 3 (some 17) (ba 10 13) az dA hHeld (hy:=Or.inl ⟨by rfl,by rintro w' ⟨s0,s1,s2,s3,s4,s5⟩;go_simp;with_reducible rfl⟩) (h:=?_)
 refine ja (i:=1) (N:=some 15) (ba 10 15) rfl rfl (hO az.out (by kernel_rfl)) (by decide) (fun K hK=>?_)
 refine mP Try.func86 (by kernel_rfl) rfl #[.agg #[.int .i64 t102,.slice iQ t103.length iF]] (by rfl) rfl rfl gm ?_
 with_reducible refine (apD.calls k t102 _ _ t103 t108 _ ?aoN ?aoP A4.z).mono ?_
 (case aoN=>exact aC ((Kd.cQ apd.z).2.2))
 (case aoP=>exact (Kd.cQ apd.z).2.1)
 rintro e xE ⟨v109,rfl,aD,hb⟩
 refine ⟨_,rfl,?_⟩
 have aq:=k0 (Kd.cC (aS apd.z) (Kd.aU aD) hb)
 have au:=k0 (Kd.cU aD (aoS bl))
 have ax:=kB aa hb
 have aA:=kB di hb
 have aG:=k0 (aH bl hb)
 clear apd
 clear aa
 clear di
 clear HB
 have apd:=aq
 have oH:=au
 have aa:=ax
 have di:=aA
 have HB:=aG
 clear aq au ax aA aG
 refine hK.out _ _ ⟨aQ di,aoT di,aQ aa,aoT aa,ao_ aa,ec aa⟩ (fun hHeld=>?_)
 clear hK K
 refine jh (a':=?_) ?_ ?_
 rotate_left;· show Act.put _ (some 15) _=_;simp only [Act.put,zI,zZ,zS,cm,cO];rfl
 refine ja (i:=4) (N:=some 18) (ba 10 31) rfl rfl (hO az.out (by kernel_rfl)) (by decide) (fun K hK=>?_)
 refine mP Try.func86 (by kernel_rfl) rfl #[.agg #[.int .i64 ah,.slice aT af.length aoW]] (by rfl) rfl rfl gm ?_
 with_reducible refine (apD.calls k ah _ _ af t111 _ ?aoN ?aoP A5.z).mono ?_
 (case aoN=>exact aC (Kd.ao4 ao6.z HB.z))
 (case aoP=>exact cV.z)
 rintro e xF ⟨Fl,rfl,aD,hb⟩
 refine ⟨_,rfl,?_⟩
 have aq:=k0 (Kd.cC (aS apd.z) (Kd.aU aD) hb)
 have au:=k0 (Kd.ao9 (aR oH.z) (Kd.aU aD) hb)
 have ax:=k0 (Kd.cU (Kd.cT aD (Kd.bT (aR oH.z))) (aoS bl))
 have aA:=kB aa hb
 have aG:=kB di hb
 have aM:=k0 (aH bl hb)
 clear apd
 clear oH
 clear aa
 clear di
 clear HB
 have apd:=aq
 have oH:=au
 have oI:=ax
 have aa:=aA
 have di:=aG
 have HB:=aM
 clear aq au ax aA aG aM
 obtain ⟨wJ,vY,uB⟩:=Kd.dM oH.z
 (first|subst uB|(injection uB with gv apr gw;have j4:=gv.symm;have j5:=gw.symm;clear gv apr gw;subst j4;subst j5))
 obtain ⟨vD,ap9,qO⟩:=Kd.dM oI.z
 (first|subst qO|(injection qO with gv apr gw;have j4:=gv.symm;have j5:=gw.symm;clear gv apr gw;subst j4;subst j5))
 refine hK.out _ _ ⟨aQ di,aoT di,aQ aa,aoT aa,ao_ aa,ec aa⟩ (fun hHeld=>?_)
 clear hK K
 refine jh (a':=?_) ?_ ?_
 rotate_left;· show Act.put _ (some 18) _=_;simp only [Act.put,zI,zZ,zS,cm,cO];rfl
 refine ja (i:=5) (N:=some 19) (ba 10 63) rfl rfl (hO az.out (by kernel_rfl)) (by decide) (fun K hK=>?_)
 refine mP Try.func85 (by kernel_rfl) rfl #[.slice wJ t108.length vY,.slice vD t111.length ap9] (by rfl) rfl rfl gm ?_
 with_reducible refine (dz.calls k (fun k_=>some k_=(.slice wJ t108.length vY:Value).ownBlock) _ _ t108 (fun k_=>some k_=(.slice vD t111.length ap9:Value).ownBlock) _ _ t111 t114 t117 _ ?aoN ?aoP A6.z).mono ?_
 (case aoN=>exact Kd.zG (Kd.mh rfl (Kd.aqA (Kd.aqA (Kd.iU (oH.z) (Kd.iE apd.z) (by decide)) aa.z (by decide)) di.z (by decide))))
 (case aoP=>exact Kd.zG (Kd.mh rfl (Kd.aqA (Kd.aqA (Kd.iU (oI.z) (Kd.iE apd.z) (by decide)) aa.z (by decide)) di.z (by decide))))
 rintro e aqf ⟨afH,rfl,aD,hb⟩
 refine ⟨_,rfl,?_⟩
 have aq:=k0 (Kd.cC (aS apd.z) (Kd.aU aD) hb)
 have au:=k0 (Kd.ao9 (aR oH.z) (Kd.aU aD) hb)
 have ax:=k0 (Kd.ao9 (aR oI.z) (Kd.aU aD) hb)
 have aA:=k0 (Kd.cU (Kd.cT (Kd.cT (Kd.aoY (ok':=fun k_=>True) aD (fun _ bZ=>trivial)) (Kd.bT (aR oH.z))) (Kd.bT (aR oI.z))) (aoS bl))
 have aG:=kB aa hb
 have aM:=kB di hb
 have bu:=k0 (aH bl hb)
 clear apd
 clear oH
 clear oI
 clear aa
 clear di
 clear HB
 have apd:=aq
 have oH:=au
 have oI:=ax
 have Dj:=aA
 have aa:=aG
 have di:=aM
 have HB:=bu
 clear aq au ax aA aG aM bu
 refine hK.out _ _ ⟨aQ di,aoT di,aQ aa,aoT aa,ao_ aa,ec aa⟩ (fun hHeld=>?_)
 clear hK K
 refine jh (a':=?_) ?_ ?_
 rotate_left;· show Act.put _ (some 19) _=_;simp only [Act.put,zI,zZ,zS,cm,cO];rfl
 refine pu 6 (some 20) (ba 10 127) az (h:=?_)
 refine pu 7 (some 21) (ba 10 255) az (h:=?_)
 refine pu 8 (some 2) (ba 10 511) az (h:=?_)
 refine pu 9 (some 3) (ba 10 1023) az (h:=?_)
 refine lY (nj az.out (by kernel_rfl)) ?_
 try go_wp2
 go_ret2
 exact ⟨_,eR,by (with_reducible repeat (first|apply Kd.dK|apply Kd.dD|apply Kd.cB));exact Kd.aoY Dj.z (fun _ hk=>trivial),bl⟩
/-! ### F40: function 40 -/
def zk.f (l0:List Int):Option (Bool):=some (decide ((l0.length:Int) > 4096))
theorem zk.calls (A0 : Option Addr) (c0 : Nat) (l0 : List Int) (r : Bool) (w : World) (cY : Kd.C (Kd.int .u8) w A0 l0.length l0) (hc0 : l0.length ≤ c0) (h : zk.f l0 = some r) :
  Calls Try.prog 40 #[.slice A0 l0.length c0] w fun e w'=>e=.returned (.bool r)∧iR w w':=by
 have ek:=k0 cY
 have jx:=k0 hc0
 clear cY hc0
 have H:(some (decide ((l0.length:Int) > 4096)))=some r:=h
 clear h
 obtain rfl:=Option.some.inj H
 go_enter Try.func40,Try.ntmps40
 go_wp2
 go_ret
 exact ⟨rs,dW⟩
/-! ### F44: function 44 -/
def iC.l0 : Nat → List Int → List Int → Int → Option (Bool)
 | 0,_,_,_=>none
 | k+1,x0,x1,x5=>if x5 < (x0.length:Int) then (if 0≤x5 then (if x5 < (x1.length:Int) then (if (rd x0 x5)=(rd x1 x5) then (iC.l0 k x0 x1 (wrap64 (x5+1))) else (some false)) else (none)) else (none)) else (some true)
def iC.f (k:Nat) (l0:List Int) (l1:List Int):Option (Bool):=if (l0.length:Int)=(l1.length:Int) then (iC.l0 k l0 l1 0) else (some false)
theorem iC.calls (k : Nat) (A0 : Option Addr) (c0 : Nat) (l0 : List Int) (A1 : Option Addr) (c1 : Nat) (l1 : List Int) (r : Bool) (w : World) (cY : Kd.C (Kd.int .i64) w A0 l0.length l0) (hc0 : l0.length ≤ c0) (fY : Kd.C (Kd.int .i64) w A1 l1.length l1) (gi : l1.length ≤ c1) (h : iC.f k l0 l1 = some r) :
  Calls Try.prog 44 #[.slice A0 l0.length c0,.slice A1 l1.length c1] w fun e w'=>e=.returned (.bool r)∧iR w w':=by
 have ek:=k0 cY
 have jx:=k0 hc0
 clear cY hc0
 have gq:=k0 fY
 have lD:=k0 gi
 clear fY gi
 have H:(if (l0.length:Int)=(l1.length:Int) then (iC.l0 k l0 l1 0) else (some false))=some r:=h
 clear h
 by_cases c3:(l0.length:Int)=(l1.length:Int)
 case neg =>
  rw [if_neg c3] at H
  have jd:((l0.length:Int) == (l1.length:Int))=false:=beq_eq_false_iff_ne.mpr c3
  have oc:((l0.length:Int) != (l1.length:Int))=true:=bne_iff_ne.mpr c3
  have DU:(l0.length == l1.length)=false:=by first|simpa using c3|(simp at c3 ⊢;omega)
  obtain rfl:=Option.some.inj H
  go_enter Try.func44,Try.ntmps44
  go_wp2
  repeat (go_quiet (fail);try go_wp2)
  go_ret
  exact ⟨rs,dW⟩
 rw [if_pos c3] at H
 have jd:((l0.length:Int) == (l1.length:Int))=true:=beq_iff_eq.mpr c3
 have oc:((l0.length:Int) != (l1.length:Int))=false:=bne_eq_false_iff_eq.mpr c3
 have DU:(l0.length == l1.length)=true:=by first|simpa using c3|(simp at c3 ⊢;omega)
 clear c3
 have H':=k0 H
 clear H
 go_enter Try.func44,Try.ntmps44
 go_wp2
 repeat (go_quiet (fail);try go_wp2)
 go_loopg [5] k (fun kq v5 w'=>∃ (aY:Int),v5=.int .i64 aY∧aj (iC.l0 kq l0 l1 aY=some r)∧aj (kq≤k)∧iR w w')
 case atStart=>exact ⟨(0),rs,H',⟨Nat.le_refl _⟩,dW⟩
 case round =>
  clear H'
  obtain ⟨aY,rfl,HA,bx,⟨m1,rfl⟩⟩:=hrel
  cases gk with
  | zero=>exact absurd HA.z (by simp [iC.l0])
  | succ k1 =>
   have H:=HA.z
   clear HA
   simp only [iC.l0] at H
   by_cases c4:aY < (l0.length:Int)
   case neg =>
    rw [if_neg c4] at H
    have fX:decide (aY < (l0.length:Int))=false:=decide_eq_false c4
    clear c4
    obtain rfl:=Option.some.inj H
    go_wp2
    repeat (go_quiet (fail);try go_wp2)
    go_ret
    exact ⟨rs,dW⟩
   rw [if_pos c4] at H
   have fX:=decide_eq_true c4
   clear c4
   replace H:=iS H;obtain ⟨c5,H⟩:=H
   have jt:=decide_eq_true c5
   clear c5
   replace H:=iS H;obtain ⟨c6,H⟩:=H
   have kG:=decide_eq_true c6
   clear c6
   by_cases c7:(rd l0 aY)=(rd l1 aY)
   case neg =>
    rw [if_neg c7] at H
    have oO:((rd l0 aY) == (rd l1 aY))=false:=beq_eq_false_iff_ne.mpr c7
    have uv:((rd l0 aY) != (rd l1 aY))=true:=bne_iff_ne.mpr c7
    obtain rfl:=Option.some.inj H
    have apa:0≤(aY:Int):=oD
    have apb:aY < (l0.length:Int):=oD
    obtain ⟨mj,e101,lp⟩:=Kd.cN ek.z aY apa apb
    cases e101
    replace apa:=eq_true apa
    replace apb:=eq_true apb
    have dF:0≤(aY:Int):=oD
    have dG:aY < (l1.length:Int):=oD
    obtain ⟨nh,e102,gO⟩:=Kd.cN gq.z aY dF dG
    cases e102
    replace dF:=eq_true dF
    replace dG:=eq_true dG
    go_wp2
    repeat (go_quiet (fail);try go_wp2)
    go_ret
    exact ⟨rs,dW⟩
   rw [if_pos c7] at H
   have oO:((rd l0 aY) == (rd l1 aY))=true:=beq_iff_eq.mpr c7
   have uv:((rd l0 aY) != (rd l1 aY))=false:=bne_eq_false_iff_eq.mpr c7
   clear c7
   have H':=k0 H
   clear H
   have apa:0≤(aY:Int):=oD
   have apb:aY < (l0.length:Int):=oD
   obtain ⟨mj,e101,lp⟩:=Kd.cN ek.z aY apa apb
   cases e101
   replace apa:=eq_true apa
   replace apb:=eq_true apb
   have dF:0≤(aY:Int):=oD
   have dG:aY < (l1.length:Int):=oD
   obtain ⟨nh,e102,gO⟩:=Kd.cN gq.z aY dF dG
   cases e102
   replace dF:=eq_true dF
   replace dG:=eq_true dG
   go_wp2
   repeat (go_quiet (fail);try go_wp2)
   go_roundg k1
   case measure=>have:=bx.z;omega
   case rel=>exact ⟨(wrap64 (aY+1)),rs,H',⟨by have:=bx.z;omega⟩,dW⟩
/-- A state of type 146 at block g of W; what its slices lead to came in by w0. -/
def ag (w0 W:World) (g:Nat) (f0:List Int) (f1:Int) (f2:Int):Prop:=∃ A0 c0,W.heap[g]?=some (.cells #[.slice A0 f0.length c0,.int .i64 f1,.int .u64 f2] 146 (0,0))∧w0.heap.size≤g∧Kd.C (Kd.int .u8) w0 A0 f0.length f0
theorem ag.grown {w0 W:World} {g:Nat} {f0:List Int} {f1:Int} {f2:Int} {W1:World} {row:Option Nat} (h:ag w0 W g f0 f1 f2) (hw:W.grownBy W1 row) (hne:some g ≠ row):ag w0 W1 g f0 f1 f2:=by
 obtain ⟨A0,c0,hb,hg,cY⟩:=h
 exact ⟨A0,c0,fl hb hw hne,hg,cY⟩
theorem ag.fresh {w0 W:World} {g:Nat} {f0:List Int} {f1:Int} {f2:Int} (h:ag w0 W g f0 f1 f2):∀ k,W.heap.size≤k→k ≠ g:=by
 obtain ⟨A0,c0,hb,hg,cY⟩:=h
 exact Kd.BP hb
theorem ag.below {w0 W:World} {g:Nat} {f0:List Int} {f1:Int} {f2:Int} {W1:World} (h:ag w0 W g f0 f1 f2) (hw:Below W.heap.size W W1):ag w0 W1 g f0 f1 f2:=h.grown (ZZ hw none) (by simp)
theorem ag.drewN {w0 W:World} {g:Nat} {f0:List Int} {f1:Int} {f2:Int} (h:ag w0 W g f0 f1 f2) (m:Nat):ag w0 (W.drewN m) g f0 f1 f2:=h
theorem ag.drew {w0 W:World} {g:Nat} {f0:List Int} {f1:Int} {f2:Int} (h:ag w0 W g f0 f1 f2):ag w0 W.drew g f0 f1 f2:=h
theorem ag.apart {w0 W:World} {g:Nat} {f0:List Int} {f1:Int} {f2:Int} {α:Type} {d:Kd α} {e:Nat} {base:Nat} {ok:Nat→Prop} {v:Value} {xs:List α} (h:ag w0 W g f0 f1 f2) (ho:d.R e W base ok v xs) (ht:∀ q,q ∈ e :: d.E→q ≠ 146):d.R e W base (fun k=>ok k∧k ≠ g) v xs:=by
 obtain ⟨A0,c0,hb,hg,cY⟩:=h
 exact Kd.aqA ho hb ht
theorem ag.tD {w0 W:World} {g:Nat} {f0:List Int} {f1:Int} {f2:Int} {α:Type} {d:Kd α} {e:Nat} {base:Nat} {ok:Nat→Prop} {v:Value} {xs:List α} (h:ag w0 W g f0 f1 f2) (ho:d.R e W base ok v xs) (ht:e ≠ 146):some g ≠ v.ownBlock:=by
 obtain ⟨A0,c0,hb,hg,cY⟩:=h
 exact Kd.kr ho hb ht
theorem ag.pI {w0 W:World} {g:Nat} {f0:List Int} {f1:Int} {f2:Int} {α:Type} {d:Kd α} {e:Nat} {base:Nat} {ok:Nat→Prop} {v:Value} {xs:List α} (h:ag w0 W g f0 f1 f2) (ho:d.S e W base ok v xs) (ht:∀ q,q ∈ e :: d.E→q ≠ 146):d.S e W base (fun k=>ok k∧k ≠ g) v xs:=by
 obtain ⟨A0,c0,hb,hg,cY⟩:=h
 exact Kd.zK ho hb ht
theorem ag.AI {w0 W:World} {g:Nat} {f0:List Int} {f1:Int} {f2:Int} {α:Type} {d:Kd α} {e:Nat} {base:Nat} {ok:Nat→Prop} {v:Value} {xs:List α} (h:ag w0 W g f0 f1 f2) (ho:d.S e W base ok v xs) (ht:e ≠ 146):some g ≠ v.ownBlock:=by
 obtain ⟨A0,c0,hb,hg,cY⟩:=h
 exact Kd.jz ho hb ht
theorem ag.lt {w0 W:World} {g:Nat} {f0:List Int} {f1:Int} {f2:Int} (h:ag w0 W g f0 f1 f2):g < W.heap.size:=by
 obtain ⟨A0,c0,hb,hg,cY⟩:=h
 exact qH hb
theorem ag.ge {w0 W:World} {g:Nat} {f0:List Int} {f1:Int} {f2:Int} (h:ag w0 W g f0 f1 f2):w0.heap.size≤g:=by
 obtain ⟨A0,c0,hb,hg,cY⟩:=h
 exact hg
theorem ag.aq6 {w0 W:World} {g:Nat} {f0:List Int} {f1:Int} {f2:Int} {a:Nat} {cs:Array Value} {t:TypeId} {fr:Nat × Nat} (h:ag w0 W g f0 f1 f2) (hb2:W.heap[a]?=some (.cells cs t fr)) (ht:t ≠ 146):g ≠ a:=by
 obtain ⟨A0,c0,hb,hg,cY⟩:=h
 rintro rfl
 rw [hb] at hb2
 injection hb2 with hb2
 injection hb2 with _ ht2
 exact ht ht2.symm
theorem ag.ao' {w0 W:World} {g:Nat} {f0:List Int} {f1:Int} {f2:Int} {p:Addr} (h:ag w0 W g f0 f1 f2) (hne:g ≠ p.block) (u:Value):ag w0 (W.setCell p u) g f0 f1 f2:=by
 obtain ⟨A0,c0,hb,hg,cY⟩:=h
 exact ⟨A0,c0,bW hb hne u,hg,cY⟩
theorem PJ {W:World} {g:Nat} {A0:Option Addr} {c0:Nat} {f0:List Int} {f1:Int} {f2:Int} (h:W.heap[g]?=some (.cells #[.slice A0 f0.length c0,.int .i64 f1,.int .u64 f2] 146 (0,0))):W.cell? ⟨g,0,none⟩=some (.slice A0 f0.length c0):=(fq h 0).trans rfl
theorem PK {W:World} {g:Nat} {A0:Option Addr} {c0:Nat} {f0:List Int} {f1:Int} {f2:Int} (h:W.heap[g]?=some (.cells #[.slice A0 f0.length c0,.int .i64 f1,.int .u64 f2] 146 (0,0))):W.cell? ⟨g,1,none⟩=some (.int .i64 f1):=(fq h 1).trans rfl
theorem ag.fZ {w0 W:World} {g:Nat} {f0:List Int} {f1:Int} {f2:Int} (h:ag w0 W g f0 f1 f2) (x:Int):ag w0 (W.setCell ⟨g,1,none⟩ (.int .i64 x)) g f0 x f2:=by
 obtain ⟨A0,c0,hb,hg,cY⟩:=h
 exact ⟨A0,c0,by simpa using Gd hb 1 (.int .i64 x),hg,cY⟩
theorem PL {W:World} {g:Nat} {A0:Option Addr} {c0:Nat} {f0:List Int} {f1:Int} {f2:Int} (h:W.heap[g]?=some (.cells #[.slice A0 f0.length c0,.int .i64 f1,.int .u64 f2] 146 (0,0))):W.cell? ⟨g,2,none⟩=some (.int .u64 f2):=(fq h 2).trans rfl
theorem ag.f_ {w0 W:World} {g:Nat} {f0:List Int} {f1:Int} {f2:Int} (h:ag w0 W g f0 f1 f2) (x:Int):ag w0 (W.setCell ⟨g,2,none⟩ (.int .u64 x)) g f0 f1 x:=by
 obtain ⟨A0,c0,hb,hg,cY⟩:=h
 exact ⟨A0,c0,by simpa using Gd hb 2 (.int .u64 x),hg,cY⟩
theorem aoZ {w0 W W1:World} {g:Nat} {f0 Qw:List Int} {f1 Qx:Int} {f2 Qy:Int} (h:ag w0 W g f0 f1 f2) (k:ag w0 W g f0 f1 f2→ag w0 W1 g Qw Qx Qy:=by intro h;repeat (first|(with_reducible first|exact h|apply ag.alloc|apply ag.drewN|apply ag.drew|apply ag.fZ|apply ag.f_|refine ag.ao' ?_ (aj.z (by assumption)) _)|exact h)):ag w0 W1 g Qw Qx Qy:=k h
/-! ### F110: function 110 -/
def kg.l0 : Nat → List Int → Int → List Int → Int → Int → Option (List Int × Int × Int)
 | 0,_,_,_,_,_=>none
 | k+1,x0,x4,fG,eH,vr=>if x4 < (x0.length:Int) then (if x4 < 4096 then (if 0≤x4 then (kg.l0 k x0 (wrap64 (x4+1)) fG eH (IntKind.u64.wrap ((IntKind.u64.wrap ((IntKind.u64.wrap (vr * 1099511628211))+(IntKind.u64.wrap (rd x0 x4))))+109))) else (none)) else (some (fG,eH,vr))) else (some (fG,eH,vr))
def kg.f (k:Nat) (l0:List Int):Option (List Int × Int × Int):=kg.l0 k l0 0 l0 0 (IntKind.u64.wrap (12981+(IntKind.u64.wrap ((l0.length:Int)))))
def kg.T5:Bool × List (List Nat × List Nat):=(true,[([],[]),([],[]),([1],[1]),([2],[2]),([3],[3]),([4],[4]),([],[]),([],[]),([6,7],[6,7]),([8],[8]),([9],[9]),([5,10],[5,10]),([11],[11]),([0,0,1,2,3,4,5,6,7,8,9,10,11,12],[0]),([13,0,1,2,3,4,5,6,7,8,9,10,11,12],[13]),([14,12,0,1,2,3,4,5,6,7,8,9,10,11,12],[12,14])])
def kg.B5:List Nat:=[0,0,2,6,14,30,0,0,192,448,960,2046,4094,8191,16383,32767]
theorem kg.Fj:iP .any (opsOf Try.f110 5)=kg.T5:=by kernel_rfl
theorem kg.DO:nA kg.T5.2 kg.B5=true:=by kernel_rfl
theorem kg.calls (k : Nat) (A0 : Option Addr) (c0 : Nat) (l0 : List Int) (r1 : List Int) (r2 : Int) (r3 : Int) (w0 w : World) (hB : Below w0.heap.size w0 w) (cY : Kd.C (Kd.int .u8) w0 A0 l0.length l0) (hc0 : l0.length ≤ c0) (h : kg.f k l0 = some (r1, r2, r3)) :
  Calls Try.prog 110 #[.slice A0 l0.length c0] w fun e w'=>∃ g_:Nat,e=.returned (.pointer (some ⟨g_,0,none⟩))∧ag w0 w' g_ r1 r2 r3∧Below w0.heap.size w0 w'∧Below w.heap.size w w':=by
 have an1:=Try.underlying146
 have ek:=k0 cY
 have jx:=k0 hc0
 clear cY hc0
 have rR:=k0 (Below.refl w.heap.size w)
 have apt:=k0 hB.size
 have HB:=k0 hB
 clear hB
 have H:(kg.l0 k l0 0 l0 0 (IntKind.u64.wrap (12981+(IntKind.u64.wrap ((l0.length:Int))))))=some (r1,r2,r3):=h
 clear h
 have H':=k0 H
 clear H
 go_enter Try.func110,Try.ntmps110
 go_wp2_with (first|((with_reducible refine bp (N:=11) rfl ?_);refine bR 11 #[.slice A0 l0.length c0,.int .i64 0,.int .u64 (IntKind.u64.wrap (12981+(IntKind.u64.wrap ((l0.length:Int)))))] 146 ?_;intro aoV hg w2 aE hb;replace HB:=k0 (aH bl hb);have aa:=k0 (aE);have bB:=k0 ((by rw [hg];exact (aoS (aL rR.z)):w.heap.size≤aoV));have aX:=k0 ((Nat.le_trans apt.z (by rw [hg];exact (aoS (aL rR.z)):w.heap.size≤aoV):w0.heap.size≤aoV));replace rR:=k0 (aH rR.z hb);clear hb aE hg))
 go_loopg [4] k (fun kq v4 w'=>∃ (cu:Int) (y7:Int),v4=.int .i64 cu∧aj (kg.l0 kq l0 cu l0 0 y7=some (r1,r2,r3))∧aj (kq≤k)∧aj (w'.heap[aoV]?=some (.cells #[(.slice A0 l0.length c0),.int .i64 0,.int .u64 y7] 146 (0,0)))∧aj (Below w.heap.size w w')∧aj (Below w0.heap.size w0 w'))
 case atStart=>exact ⟨(0),(IntKind.u64.wrap (12981+(IntKind.u64.wrap ((l0.length:Int))))),rs,H',⟨Nat.le_refl _⟩,⟨bk⟩,⟨aL rR.z⟩,⟨bl⟩⟩
 case round =>
  clear H'
  obtain ⟨cu,y7,rfl,HA,bx,aa,rR,HB⟩:=hrel
  cases gk with
  | zero=>exact absurd HA.z (by simp [kg.l0])
  | succ k1 =>
   have H:=HA.z
   clear HA
   simp only [kg.l0] at H
   by_cases c3:cu < (l0.length:Int)
   case neg =>
    rw [if_neg c3] at H
    have jd:decide (cu < (l0.length:Int))=false:=decide_eq_false c3
    clear c3
    simp only [Option.some.injEq,Prod.mk.injEq] at H
    obtain ⟨rfl,rfl,rfl⟩:=H
    go_wp2
    go_ret
    exact ⟨_,rfl,(show ag w0 _ aoV l0 0 y7 from ⟨_,_,by (with_reducible repeat (first|refine aoU ?_ _|refine aJ ?_|refine aoQ ?_ _));exact aa.z,aX.z,ek.z⟩),bl,aL rR.z⟩
   rw [if_pos c3] at H
   have jd:=decide_eq_true c3
   clear c3
   by_cases c4:cu < 4096
   case neg =>
    rw [if_neg c4] at H
    have fX:decide (cu < 4096)=false:=decide_eq_false c4
    clear c4
    simp only [Option.some.injEq,Prod.mk.injEq] at H
    obtain ⟨rfl,rfl,rfl⟩:=H
    go_wp2
    go_ret
    exact ⟨_,rfl,(show ag w0 _ aoV l0 0 y7 from ⟨_,_,by (with_reducible repeat (first|refine aoU ?_ _|refine aJ ?_|refine aoQ ?_ _));exact aa.z,aX.z,ek.z⟩),bl,aL rR.z⟩
   rw [if_pos c4] at H
   have fX:=decide_eq_true c4
   clear c4
   replace H:=iS H;obtain ⟨c5,H⟩:=H
   have jt:=decide_eq_true c5
   clear c5
   have H':=k0 H
   clear H
   try go_wp2
   have aq:=k0 (aJ aa.z)
   have au:=k0 (aZ HB.z)
   clear aa
   clear HB
   have aa:=aq
   have HB:=au
   have Tp:=k0 (aZ rR.z)
   clear rR
   have rR:=Tp
   clear Tp
   clear aq au
   have dF:0≤(cu:Int):=oD
   have dG:cu < (l0.length:Int):=oD
   obtain ⟨nh,e102,gO⟩:=Kd.cN ek.z cu dF dG
   have SA:=gO
   cases e102
   replace gO:=MK HB.z gO
   replace dF:=eq_true dF
   replace dG:=eq_true dG
   refine apA (n:=16) (S:=fun w'=>w'.cell? ⟨aoV,0,none⟩=some (.slice (some nh) l0.length c0)∧w'.cell? ⟨aoV,1,none⟩=some (.int .i64 0)∧w'.cell? ⟨aoV,2,none⟩=some (.int .u64 y7)∧w'.cell? (nh.add (cu).toNat)=some (.int .u8 (rd l0 cu))) (ds:=[15]) (ba 16 0) (by kernel_rfl) rfl rfl ⟨aQ aa,aoT aa,ao_ aa,((HB.z.cell (World.block_lt_of_cell? w0 _ SA)).trans SA)⟩ (fun hHeld=>?_);refine nB kg.Fj kg.DO (fun az dA=>?_)
   generalize wr.drew=w6 at aa HB rR gO hHeld ⊢
   refine pu 0 (some 22) (ba 16 1) az (h:=?_)
   refine pu 1 (some 23) (ba 16 3) az (h:=?_)
   refine pu 2 (some 24) (ba 16 7) az (h:=?_)
   refine pu 3 (some 25) (ba 16 15) az (h:=?_)
   refine pu 6 (some 28) (ba 16 79) az (h:=?_)
   refine pu 7 (some 29) (ba 16 207) az (h:=?_)
   refine pu 8 (some 30) (ba 16 463) az (h:=?_)
   refine ta 4 (some 26) (ba 16 479) az dA hHeld (hy:=Or.inl ⟨by rfl,by rintro w' ⟨s0,s1,s2,s3⟩;go_simp;with_reducible rfl⟩) (h:=?_)
   refine pu 5 (some 27) (ba 16 511) az (h:=?_)
   refine ta 9 (some 31) (ba 16 1023) az dA hHeld (hy:=Or.inl ⟨by rfl,by rintro w' ⟨s0,s1,s2,s3⟩;go_simp;with_reducible rfl⟩) (h:=?_)
   refine pu 10 (some 32) (ba 16 2047) az (h:=?_)
   refine pu 11 (some 33) (ba 16 4095) az (h:=?_)
   refine pu 12 (some 34) (ba 16 8191) az (h:=?_)
   refine pu 13 (some 35) (ba 16 16383) az (h:=?_)
   refine pu 14 (some 36) (ba 16 32767) az (h:=?_)
   refine uW (i:=15) (N:=none) (ba 16 65535) rfl rfl (hO az.out (by kernel_rfl)) (by decide) (fun K hK=>?_)
   have hs7:=ao_ aa
   have aj0:=bF aa 2
   refine tG (w1:=?_) (by rfl) rfl ?_ ?_
   rotate_left;· go_simp;rfl
   refine hK.out _ _ ?_
   clear hK K
   refine lY (nj az.out (by kernel_rfl)) ?_
   try go_wp2
   go_roundg k1
   case measure=>have:=bx.z;omega
   case rel=>exact ⟨(wrap64 (cu+1)),(IntKind.u64.wrap ((IntKind.u64.wrap ((IntKind.u64.wrap (y7 * 1099511628211))+(IntKind.u64.wrap (rd l0 cu))))+109)),rs,H',⟨by have:=bx.z;omega⟩,⟨by (with_reducible repeat (first|refine aoU ?_ _|refine aJ ?_|refine aoQ ?_ _));refine bE (cs:=#[.slice (some nh) l0.length c0,.int .i64 0,.int .u64 y7]) ?_ 2 _ rfl;exact bk⟩,⟨aL rR.z⟩,⟨bl⟩⟩
/-! ### F112: function 112 -/
def dg.f (aI:List Int) (bV:Int) (ao5:Int) (a1:Int):Option (Int × Int × Int):=if a1 < 1 then (some (0,bV,ao5)) else (if bV < (aI.length:Int) then (if 0≤bV then (if a1=0 then (none) else (some (Int.tmod (wrap64 ((wrap64 (Go.bits .and .u64 ((IntKind.u64.wrap ((IntKind.u64.wrap (ao5 * 6364136223846793005))+1442695040888963407)) / 2147483648) 1073741823))+(wrap64 (rd aI bV)))) a1,wrap64 (bV+1),IntKind.u64.wrap ((IntKind.u64.wrap (ao5 * 6364136223846793005))+1442695040888963407)))) else (none)) else (if a1=0 then (none) else (some (Int.tmod (wrap64 (Go.bits .and .u64 ((IntKind.u64.wrap ((IntKind.u64.wrap (ao5 * 6364136223846793005))+1442695040888963407)) / 2147483648) 1073741823)) a1,bV,IntKind.u64.wrap ((IntKind.u64.wrap (ao5 * 6364136223846793005))+1442695040888963407)))))
theorem dg.calls (g : Nat) (aI : List Int) (bV : Int) (ao5 : Int) (a1 : Int) (r1 : Int) (r2 : Int) (r3 : Int) (w0 w : World) (hI : ag w0 w g aI bV ao5) (hB : Below w0.heap.size w0 w) (h : dg.f aI bV ao5 a1 = some (r1, r2, r3)) :
  Calls Try.prog 112 #[.pointer (some ⟨g,0,none⟩),.int .i64 a1] w fun e w'=>e=.returned (.int .i64 r1)∧ag w0 w' g aI r2 r3∧Below w0.heap.size w0 w'∧aoR w w' g none:=by
 have ai:=k0 hI
 have HK:=k0 (aoR.refl w g none)
 have HL:=k0 hB.size
 clear hI
 have apt:=k0 hB.size
 have HB:=k0 hB
 clear hB
 have H:(if a1 < 1 then (some (0,bV,ao5)) else (if bV < (aI.length:Int) then (if 0≤bV then (if a1=0 then (none) else (some (Int.tmod (wrap64 ((wrap64 (Go.bits .and .u64 ((IntKind.u64.wrap ((IntKind.u64.wrap (ao5 * 6364136223846793005))+1442695040888963407)) / 2147483648) 1073741823))+(wrap64 (rd aI bV)))) a1,wrap64 (bV+1),IntKind.u64.wrap ((IntKind.u64.wrap (ao5 * 6364136223846793005))+1442695040888963407)))) else (none)) else (if a1=0 then (none) else (some (Int.tmod (wrap64 (Go.bits .and .u64 ((IntKind.u64.wrap ((IntKind.u64.wrap (ao5 * 6364136223846793005))+1442695040888963407)) / 2147483648) 1073741823)) a1,bV,IntKind.u64.wrap ((IntKind.u64.wrap (ao5 * 6364136223846793005))+1442695040888963407))))))=some (r1,r2,r3):=h
 clear h
 by_cases c3:a1 < 1
 case neg =>
  rw [if_neg c3] at H
  have jd:decide (a1 < 1)=false:=decide_eq_false c3
  clear c3
  by_cases c4:bV < (aI.length:Int)
  case neg =>
   rw [if_neg c4] at H
   have fX:decide (bV < (aI.length:Int))=false:=decide_eq_false c4
   clear c4
   by_cases c8:a1=0
   case neg =>
    rw [if_neg c8] at H
    have kH:(a1 == 0)=false:=beq_eq_false_iff_ne.mpr c8
    have qL:(a1 != 0)=true:=bne_iff_ne.mpr c8
    simp only [Option.some.injEq,Prod.mk.injEq] at H
    obtain ⟨rfl,rfl,rfl⟩:=H
    obtain ⟨af9,ahl,Bm,abT,agS⟩:=ai.z
    have v_:=PJ Bm
    have we:=PK Bm
    have aa4:=PL Bm
    have wh:=iV Bm 1
    have abR:=iV Bm 2
    clear Bm abT
    go_enter Try.func112,Try.ntmps112
    go_wp2
    repeat (go_quiet (fail);try go_wp2)
    go_ret
    exact ⟨eR,aoZ ai.z,by repeat (first|(with_reducible first|exact HB.z|apply a_|apply bf|apply aZ|refine aoO ?_ (ag.ge ai.z))|exact HB.z),aK HK.z⟩
   rw [if_pos c8] at H
   exact absurd H (by simp)
  rw [if_pos c4] at H
  have fX:=decide_eq_true c4
  clear c4
  replace H:=iS H;obtain ⟨c5,H⟩:=H
  have jt:=decide_eq_true c5
  clear c5
  by_cases c6:a1=0
  case neg =>
   rw [if_neg c6] at H
   have kG:(a1 == 0)=false:=beq_eq_false_iff_ne.mpr c6
   have apZ:(a1 != 0)=true:=bne_iff_ne.mpr c6
   simp only [Option.some.injEq,Prod.mk.injEq] at H
   obtain ⟨rfl,rfl,rfl⟩:=H
   obtain ⟨af8,ahk,Bl,abS,VY⟩:=ai.z
   have Rk:=PJ Bl
   have Rl:=PK Bl
   have ajq:=PL Bl
   have RF:=iV Bl 1
   have alC:=iV Bl 2
   clear Bl abS
   have apa:0≤(bV:Int):=oD
   have apb:bV < (aI.length:Int):=oD
   obtain ⟨mj,e101,lp⟩:=Kd.cN VY bV apa apb
   cases e101
   have G4:mj.block ≠ g:=Nat.ne_of_lt (Nat.lt_of_lt_of_le (by have:=World.block_lt_of_cell? _ _ lp;first|rwa [add_block] at this|exact this) (ag.ge ai.z))
   replace lp:=MK HB.z lp
   replace lp:=(cell_far (p:=⟨g,2,none⟩) (by first|(rw [add_block];exact G4)|(show (Addr.add _ _).block ≠ _;rw [add_block];exact G4)|exact G4) (.int .u64 (IntKind.u64.wrap ((IntKind.u64.wrap (ao5 * 6364136223846793005))+1442695040888963407)))).trans lp
   (try have an5:=fun (n_:Nat)=>(show (((w.drewN n_).setCell ⟨g,2,none⟩ (.int .u64 (IntKind.u64.wrap ((IntKind.u64.wrap (ao5 * 6364136223846793005))+1442695040888963407))))).cell? _=some _ from lp))
   clear G4
   replace apa:=eq_true apa
   replace apb:=eq_true apb
   go_enter Try.func112,Try.ntmps112
   go_wp2
   repeat (go_quiet (fail);try go_wp2)
   go_ret
   exact ⟨eR,aoZ ai.z,by repeat (first|(with_reducible first|exact HB.z|apply a_|apply bf|apply aZ|refine aoO ?_ (ag.ge ai.z))|exact HB.z),aK HK.z⟩
  rw [if_pos c6] at H
  exact absurd H (by simp)
 rw [if_pos c3] at H
 have jd:=decide_eq_true c3
 clear c3
 simp only [Option.some.injEq,Prod.mk.injEq] at H
 obtain ⟨rfl,rfl,rfl⟩:=H
 go_enter Try.func112,Try.ntmps112
 go_wp2
 repeat (go_quiet (fail);try go_wp2)
 go_ret
 exact ⟨eR,aoZ ai.z,by repeat (first|(with_reducible first|exact HB.z|apply a_|apply bf|apply aZ|refine aoO ?_ (ag.ge ai.z))|exact HB.z),aK HK.z⟩
end Go.Proofs.Ytoebojnhchocaaa.E
/- Set with little white space, by a program. -/
