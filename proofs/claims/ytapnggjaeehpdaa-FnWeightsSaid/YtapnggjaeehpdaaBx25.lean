/- Go's calls come to what the Lean functions say. Condition of each: that the Lean function answers. -/
import Derived.Test.YtapnggjaeehpdaaBx0
import Derived.Test.YtapnggjaeehpdaaBx1
import Derived.Test.YtapnggjaeehpdaaBx8
import Derived.Test.YtapnggjaeehpdaaBx13
import Derived.Test.YtapnggjaeehpdaaBx16
import Derived.Test.YtapnggjaeehpdaaBx17
import Derived.Test.YtapnggjaeehpdaaBx18
import Derived.Test.YtapnggjaeehpdaaBx19
import Derived.Test.YtapnggjaeehpdaaBx22
import Derived.Test.YtapnggjaeehpdaaBx23
import Derived.Test.YtapnggjaeehpdaaBx24
namespace Go.Proofs.Ytapnggjaeehpdaa.B
open Go.RowKit Go.Proofs.bz.dI Go.Proofs.bz.iY Go.Proofs.bz.jn
attribute [local go_sem] max2_int min2_int max_two min_two max_three min_three max_four min_four
set_option linter.unusedVariables false
set_option linter.unusedSimpArgs false
/-! ### F4: function 4 -/
mutual
def F4.j0 : Nat → List Int → List Int → Int → Bool → Option (Bool)
 | 0,_,_,_,_=>none
 | k+1,x0,x6,x7,x72=>if x72=true then (some false) else ((auq.f k x0).bind fun aue=>((dD.f k aue.1 aue.2.1 aue.2.2.1 aue.2.2.2.1 aue.2.2.2.2).bind fun gU=>((cR.f k aue.1 aue.2.1 aue.2.2.1 aue.2.2.2.1 aue.2.2.2.2).bind fun avw=>(if gU.2=avw.2 then ((F9.f k gU.1 avw.1).bind fun t138=>(F4.j1 k x0 x6 x7 aue.1 aue.2.2.2.1 aue.2.2.2.2 gU.1 gU.2 (!t138) aue.2.1 aue.2.2.1)) else (F4.j1 k x0 x6 x7 aue.1 aue.2.2.2.1 aue.2.2.2.2 gU.1 gU.2 true aue.2.1 aue.2.2.1)))))
def F4.j1 : Nat → List Int → List Int → Int → Int → List Int → Int → List Int → Int → Bool → Int → List (List Int) → Option (Bool)
 | 0,_,_,_,_,_,_,_,_,_,_,_=>none
 | k+1,x0,x6,x7,eS,bA,b6,nR,fu,alC,Df,Dg=>if alC=true then (some false) else ((DA.f k x0).bind fun qE=>((BG.f k qE.1 qE.2.1 qE.2.2.1 qE.2.2.2).bind fun Ei=>((oZ.f k qE.1 qE.2.1 qE.2.2.1 qE.2.2.2).bind fun Ui=>(if Ei.2=Ui.2 then ((F9.f k Ei.1 Ui.1).bind fun t154=>(F4.j2 k x0 x6 x7 eS bA b6 nR fu qE.1 qE.2.2.2 Ei.1 Ei.2 (!t154) Df Dg qE.2.1 qE.2.2.1)) else (F4.j2 k x0 x6 x7 eS bA b6 nR fu qE.1 qE.2.2.2 Ei.1 Ei.2 true Df Dg qE.2.1 qE.2.2.1)))))
def F4.j2 : Nat → List Int → List Int → Int → Int → List Int → Int → List Int → Int → Int → Int → List Int → Int → Bool → Int → List (List Int) → Int → List (List Int) → Option (Bool)
 | 0,_,_,_,_,_,_,_,_,_,_,_,_,_,_,_,_,_=>none
 | k+1,x0,x6,x7,eS,bA,b6,nR,fu,jY,oV,mQ,atl,alD,Df,Dg,qo,qp=>if alD=true then (some false) else ((aur.f k x0).bind fun au0=>((qu.f k au0.1 au0.2.1 au0.2.2.1 au0.2.2.2.1 au0.2.2.2.2).bind fun Uj=>((ir.f k au0.1 au0.2.1 au0.2.2.1 au0.2.2.2.1 au0.2.2.2.2).bind fun Uk=>(if Uj.2=Uk.2 then (F4.j3 k x6 x7 eS bA b6 nR fu jY oV mQ atl (Uj.1 != Uk.1) Df Dg qo qp) else (F4.j3 k x6 x7 eS bA b6 nR fu jY oV mQ atl true Df Dg qo qp)))))
def F4.j3 : Nat → List Int → Int → Int → List Int → Int → List Int → Int → Int → Int → List Int → Int → Bool → Int → List (List Int) → Int → List (List Int) → Option (Bool)
 | 0,_,_,_,_,_,_,_,_,_,_,_,_,_,_,_,_=>none
 | k+1,x6,x7,eS,bA,b6,nR,fu,jY,oV,mQ,atl,alE,Df,Dg,qo,qp=>if alE=true then (some false) else (if fu=0 then ((uf.f k eS Df Dg bA).bind fun Ul=>(if Ul.2=0 then (F4.l0 k x6 x7 eS b6 nR jY oV mQ atl Ul.1 1 qo qp) else (some false))) else (F4.j6 k x6 x7 jY oV mQ atl qo qp))
def F4.j6 : Nat → List Int → Int → Int → Int → List Int → Int → Int → List (List Int) → Option (Bool)
 | 0,_,_,_,_,_,_,_,_=>none
 | k+1,x6,x7,jY,oV,mQ,atl,qo,qp=>if atl=0 then (F4.j7 k x6 x7 jY mQ (oV == 1) qo qp) else (F4.j7 k x6 x7 jY mQ false qo qp)
def F4.j7 : Nat → List Int → Int → Int → List Int → Bool → Int → List (List Int) → Option (Bool)
 | 0,_,_,_,_,_,_,_=>none
 | k+1,x6,x7,jY,mQ,alF,qo,qp=>if alF=true then ((uf.f k jY qo qp mQ).bind fun Um=>((BH.f k qo qp).bind fun Un=>(if Um.2=0 then (if Un.2=0 then ((jQ.f k jY Un.1).bind fun t186=>((F9.f k Um.1 t186).bind fun t189=>(F4.j8 k x6 x7 (!t189)))) else (F4.j8 k x6 x7 true)) else (F4.j8 k x6 x7 true)))) else (if x7=0 then (if (x6.length:Int) > 0 then (if 0 < (x6.length:Int) then (some ((rd x6 0) == 1)) else (none)) else (some false)) else (some ((x6.length:Int) == 0)))
def F4.j8 : Nat → List Int → Int → Bool → Option (Bool)
 | 0,_,_,_=>none
 | k+1,x6,x7,alG=>if alG=true then (some false) else (if x7=0 then (if (x6.length:Int) > 0 then (if 0 < (x6.length:Int) then (some ((rd x6 0) == 1)) else (none)) else (some false)) else (some ((x6.length:Int) == 0)))
def F4.l0 : Nat → List Int → Int → Int → Int → List Int → Int → Int → List Int → Int → List Int → Int → Int → List (List Int) → Option (Bool)
 | 0,_,_,_,_,_,_,_,_,_,_,_,_,_=>none
 | k+1,x6,x7,eS,b6,nR,jY,oV,mQ,atl,Fi,vn,qo,qp=>if vn≤b6 then (if eS=0 then (none) else ((auD.f Fi vn).bind fun t175=>(F4.l1 k x6 x7 eS b6 nR jY oV mQ atl Fi vn (Int.tmod (wrap64 ((Int.tmod vn eS) * t175)) eS) 1 qo qp))) else (F4.j6 k x6 x7 jY oV mQ atl qo qp)
def F4.l1 : Nat → List Int → Int → Int → Int → List Int → Int → Int → List Int → Int → List Int → Int → Int → Int → Int → List (List Int) → Option (Bool)
 | 0,_,_,_,_,_,_,_,_,_,_,_,_,_,_,_=>none
 | k+1,x6,x7,eS,b6,nR,jY,oV,mQ,atl,Fi,vn,xx,au9,qo,qp=>if au9≤vn then ((auD.f Fi (wrap64 (vn - au9))).bind fun t176=>(if 0≤(wrap64 (au9 - 1)) then (if (wrap64 (au9 - 1)) < (nR.length:Int) then (if eS=0 then (none) else (F4.l1 k x6 x7 eS b6 nR jY oV mQ atl Fi vn (Int.tmod (wrap64 (xx+(wrap64 (t176 * (rd nR (wrap64 (au9 - 1))))))) eS) (wrap64 (au9+1)) qo qp)) else (none)) else (none))) else (if xx=0 then (F4.l0 k x6 x7 eS b6 nR jY oV mQ atl Fi (wrap64 (vn+1)) qo qp) else (some false))
end
def F4.f (k:Nat) (l0:List Int):Option (Bool):=(F5.f l0).bind fun t101=>(if t101=true then (some true) else ((Dz.f k l0).bind fun eN=>((uf.f k eN.1 eN.2.1 eN.2.2.1 eN.2.2.2).bind fun Eh=>((BF.f k eN.1 eN.2.1 eN.2.2.1 eN.2.2.2).bind fun kV=>(if Eh.2=kV.2 then ((F9.f k Eh.1 kV.1).bind fun t119=>(F4.j0 k l0 Eh.1 Eh.2 (!t119))) else (F4.j0 k l0 Eh.1 Eh.2 true))))))
set_option maxHeartbeats 8000000 in
set_option maxRecDepth 100000 in
theorem F4.calls (k : Nat) (A0 : Option Addr) (c0 : Nat) (l0 : List Int) (r : Bool) (w : World) (bX : Kd.C (Kd.int .u8) w A0 l0.length l0) (hc0 : l0.length ≤ c0) (h : F4.f k l0 = some r) :
  Calls Try.prog 4 #[.slice A0 l0.length c0] w fun e w'=>e=.returned (.bool r)∧Below w.heap.size w w':=by
 have gV:=Try.underlying26
 have dh:=k0 bX
 have gG:=k0 hc0
 clear bX hc0
 have HB:=k0 (Below.refl w.heap.size w)
 unfold F4.f at h
 have H:=h
 clear h
 replace H:=bS H;obtain ⟨t101,A2,H⟩:=H
 cases t101
 case false =>
  replace H:=iF H
  replace H:=bS H;obtain ⟨⟨t102,t103,t104,t107⟩,A4,H⟩:=H
  dsimp only at H
  replace H:=bS H;obtain ⟨⟨t111,t114⟩,A5,H⟩:=H
  dsimp only at H
  replace H:=bS H;obtain ⟨⟨t115,t118⟩,A6,H⟩:=H
  dsimp only at H
  have Mp:=k0 H
  clear H
  go_enter Try.func4,Try.ntmps4
  go_upto_region 6 with (first|(go_at_call 5;(with_reducible refine (F5.calls _ _ l0 false _ ?av ?ax A2.z).mono ?_);(case av=>exact aC dh.z);(case ax=>exact gG.z);rintro e w' ⟨rfl,⟨nd,rfl⟩⟩;(try exact dN))|(go_at_call 32;(with_reducible refine (Dz.calls k _ _ l0 t102 t103 t104 t107 _ ?av ?ax A4.z).mono ?_);(case av=>exact aC dh.z);(case ax=>exact gG.z);rintro e w8 ⟨qV,xk,rfl,as2,k8,hb⟩;have dG:=k0 (Kd.vR (Kd.bf (ok':=fun k_=>some k_ ≠ (xk:Value).ownBlock) as2 (fun k_ aU=>aU.2)) (as8 bl));have fj:=k0 (Kd.cg (Kd.aH (ok':=fun k_=>True) k8 (fun _ aU=>trivial)) (as8 bl));replace HB:=bW hb)|((with_reducible refine aX (N:=4) rfl ?_);refine eJ 4 #[.int .i64 0,.slice none 0 0] 26 ?_;intro eK hg w9 aY hb;replace dG:=atZ dG hg hb;replace fj:=eI fj hb;have bN:=k0 aY;have Mc:=gW hg (as8 bl);have aaM:=Mc;replace HB:=bW hb;clear hb aY hg;obtain ⟨Pe,Pf,Pp,Pq⟩:=as9 bN;obtain ⟨gB,gx,rfl⟩:=Kd.auA dG.z;obtain ⟨nt,mZ,rfl⟩:=Kd.b9 fj.z)|(go_at_call 33;(with_reducible refine (uf.calls k t102 t103 _ _ t104 _ _ t107 t111 t114 _ ?av ?ax ?bM ?bT A5.z).mono ?_);(case av=>exact rV dG);(case ax=>exact (Kd.gT dG.z).2.1);(case bM=>exact Lo fj bN);(case bT=>exact (Kd.bD fj.z).2.1);rintro e rK ⟨cA,rfl,as2,hb⟩;replace dG:=fl dG (Kd.bh as2) hb;have eg:=k0 (Kd.cg (Kd.cU as2 (Kd.bV (nN fj bN))) (as8 bl));replace fj:=k0 (Kd.yQ (nN fj bN) (Kd.bh as2) hb);replace bN:=kP (sO t103 gB t104 gx 26) bN hb;replace HB:=bW hb;obtain ⟨J9,J',Ka,Kb⟩:=as9 bN)|(go_at_call 34;(with_reducible refine (BF.calls k t102 t103 _ _ t104 _ _ t107 t115 t118 _ ?av ?ax ?bM ?bT A6.z).mono ?_);(case av=>exact aC ((Kd.gT dG.z).2.2));(case ax=>exact (Kd.gT dG.z).2.1);(case bM=>exact aC ((Kd.bD fj.z).2.2));(case bT=>exact (Kd.bD fj.z).2.1);rintro e sF ⟨E_,rfl,as2,hb⟩;replace dG:=fl dG (Kd.bh as2) hb;have sU:=k0 (Kd.cg (Kd.cU (Kd.cU as2 (Kd.bV (aR fj.z))) (Kd.bV (aR eg.z))) (as8 bl));replace fj:=eO fj (Kd.bh as2) hb;replace eg:=eO eg (Kd.bh as2) hb;replace bN:=kB bN hb;replace HB:=bW hb))
  (try simp only [Act.put,zI,zZ,zS])
  go_cut [72] (fun v72 wc=>∃ (kq:Nat) (LN:Bool),v72=.bool LN∧af (F4.j0 kq l0 t111 t114 LN=some r)∧af (kq≤k)∧af (Kd.R (Kd.int .i64) 2 wc w.heap.size (fun _=>True) cA t111)∧af (Kd.V (Kd.slice 2 (Kd.int .i64)) 29 wc w.heap.size (fun k_=>some k_ ≠ (cA:Value).ownBlock∧k_ ≠ eK) (.slice gB t104.length gx) t104)∧af (wc.heap[eK]?=some (sO t103 gB t104 gx 26))∧af (Below w.heap.size w wc))
  case first =>
   have H:=Mp.z
   clear Mp
   replace H:=iE H;obtain ⟨c16,auo,JO,H⟩|⟨auo,JO,H⟩:=H
   case inl =>
    (first|rw [auo]|(simp only [bp,bH];rw [auo])|skip)
    have H':=k0 H
    clear H
    go_wp2
    go_meet
    case rel=>exact ⟨_,(true),rs,(by first|exact H'|(rw [lF];exact H')),⟨oL⟩,⟨aR (Kd.aH eg.z (fun _ hk=>trivial))⟩,⟨aV (Kd.bf dG.z (fun _ hk=>⟨hk.1.2,hk.1.1.2⟩))⟩,⟨bk⟩,⟨bl⟩⟩
   (first|rw [auo]|(simp only [bp,bH];rw [auo])|skip)
   replace H:=bS H;obtain ⟨t119,xG,H⟩:=H
   have H':=k0 H
   clear H
   obtain ⟨I5,Gj,rfl⟩:=Kd.b9 eg.z
   obtain ⟨vt,uz,rfl⟩:=Kd.b9 sU.z
   go_wp2_with (first|(go_at_call 9;(with_reducible refine (F9.calls k _ _ t111 _ _ t115 t119 _ ?av ?ax ?bM ?bT xG.z).mono ?_);(case av=>exact aC ((Kd.bD eg.z).2.2));(case ax=>exact (Kd.bD eg.z).2.1);(case bM=>exact aC ((Kd.bD sU.z).2.2));(case bT=>exact (Kd.bD sU.z).2.1);rintro e w' ⟨rfl,⟨nd,rfl⟩⟩;(try exact dN)))
   go_meet
   case rel=>exact ⟨_,(!t119),rs,(by first|exact H'|(rw [lF];exact H')),⟨oL⟩,⟨aR (Kd.aH eg.z (fun _ hk=>trivial))⟩,⟨aV (Kd.bf dG.z (fun _ hk=>⟨hk.1.2,hk.1.1.2⟩))⟩,⟨bk⟩,⟨bl⟩⟩
  case rest=>as_aux_lemma =>
   clear Mp
   obtain ⟨kq,LN,rfl,HA,pW,aI,atg,bN,HB⟩:=hcut
   cases kq with
   | zero=>exact absurd HA.z (by simp [F4.j0])
   | succ avO =>
    have H:=HA.z
    clear HA
    simp only [F4.j0] at H
    cases LN
    case false =>
     replace H:=iF H
     replace H:=bS H;obtain ⟨⟨t120,t121,t122,t125,t128⟩,A21,H⟩:=H
     dsimp only at H
     replace H:=bS H;obtain ⟨⟨t130,t133⟩,Dq,H⟩:=H
     dsimp only at H
     replace H:=bS H;obtain ⟨⟨t134,t137⟩,zO,H⟩:=H
     dsimp only at H
     have Ml:=k0 H
     clear H
     go_upto_region 11 with (first|(go_at_call 35;(with_reducible refine (auq.calls avO _ _ l0 t120 t121 t122 t125 t128 _ ?av ?ax A21.z).mono ?_);(case av=>exact aC (Kd.bL dh.z HB.z));(case ax=>exact gG.z);rintro e Ix ⟨ar7,Zt,rfl,as2,k8,hb⟩;replace atg:=fl atg (Kd.bh k8) hb;have sV:=k0 (Kd.vR (Kd.bf (ok':=fun k_=>some k_ ≠ (Zt:Value).ownBlock∧some k_ ≠ (cA:Value).ownBlock∧k_ ≠ eK) as2 (fun k_ aU=>⟨aU.2,(Kd.fresh' (Kd.bV (aR aI.z)) k_ aU.1),(Kd.qK (aB bN.z) k_ aU.1)⟩)) (as8 bl));have pY:=k0 (Kd.cg (Kd.cU (Kd.aH (ok':=fun k_=>True) k8 (fun _ aU=>trivial)) (Kd.bV (aR aI.z))) (as8 bl));replace aI:=eO aI (Kd.bh k8) hb;replace bN:=kB bN hb;replace HB:=bW hb)|((with_reducible refine aX (N:=11) rfl ?_);refine eJ 11 #[.int .i64 0,.slice none 0 0] 26 ?_;intro gK hg Ff aY hb;replace aI:=eI aI hb;replace atg:=atZ atg hg hb;replace sV:=atZ sV hg hb;replace pY:=eI pY hb;have eF:=k0 aY;have aa2:=gW hg (as8 bl);have amx:=aa2;replace HB:=bW hb;have Tg:=nL hg bN;have Np:=nG Tg;replace bN:=kB bN hb;clear hb aY hg;have aqM:=Np.z;have aq1:=Tg.z;obtain ⟨ao7,ao8,apN,apO⟩:=as9 eF;obtain ⟨oY,pq,rfl⟩:=Kd.auA sV.z;obtain ⟨jN,jT,rfl⟩:=Kd.b9 pY.z)|(go_at_call 36;(with_reducible refine (dD.calls avO t120 t121 _ _ t122 _ _ t125 t128 t130 t133 _ ?av ?ax ?bM ?bT Dq.z).mono ?_);(case av=>exact rV sV);(case ax=>exact (Kd.gT sV.z).2.1);(case bM=>exact Lo pY eF);(case bT=>exact (Kd.bD pY.z).2.1);rintro e Lx ⟨gp,rfl,as2,hb⟩;replace atg:=fl atg (Kd.bh as2) hb;replace sV:=fl sV (Kd.bh as2) hb;have o7:=k0 (Kd.cg (Kd.cU (Kd.cU as2 (Kd.bV (nN aI eF))) (Kd.bV (nN pY eF))) (as8 bl));replace aI:=k0 (Kd.yQ (nN aI eF) (Kd.bh as2) hb);replace pY:=k0 (Kd.yQ (nN pY eF) (Kd.bh as2) hb);replace bN:=kF bN hb;replace eF:=kP (sO t121 oY t122 pq 26) eF hb;replace HB:=bW hb;obtain ⟨ao9,ao',apP,apQ⟩:=as9 eF)|(go_at_call 37;(with_reducible refine (cR.calls avO t120 t121 _ _ t122 _ _ t125 t128 t134 t137 _ ?av ?ax ?bM ?bT zO.z).mono ?_);(case av=>exact aC ((Kd.gT sV.z).2.2));(case ax=>exact (Kd.gT sV.z).2.1);(case bM=>exact aC ((Kd.bD pY.z).2.2));(case bT=>exact (Kd.bD pY.z).2.1);rintro e xo ⟨Zu,rfl,as2,hb⟩;replace atg:=fl atg (Kd.bh as2) hb;replace sV:=fl sV (Kd.bh as2) hb;have z5:=k0 (Kd.cg (Kd.cU (Kd.cU (Kd.cU as2 (Kd.bV (aR aI.z))) (Kd.bV (aR pY.z))) (Kd.bV (aR o7.z))) (as8 bl));replace aI:=eO aI (Kd.bh as2) hb;replace pY:=eO pY (Kd.bh as2) hb;replace o7:=eO o7 (Kd.bh as2) hb;replace bN:=kB bN hb;replace eF:=kB eF hb;replace HB:=bW hb))
     (try simp only [Act.put,zI,zZ,zS])
     go_cut [104] (fun xj wc=>∃ (kq:Nat) (LC:Bool),xj=.bool LC∧af (F4.j1 kq l0 t111 t114 t120 t125 t128 t130 t133 LC t121 t122=some r)∧af (kq≤avO)∧af (Kd.R (Kd.int .i64) 2 wc w.heap.size (fun k_=>some k_ ≠ ((.slice jN t125.length jT):Value).ownBlock∧some k_ ≠ (gp:Value).ownBlock) cA t111)∧af (Kd.R (Kd.int .i64) 2 wc w.heap.size (fun k_=>some k_ ≠ (cA:Value).ownBlock∧some k_ ≠ (gp:Value).ownBlock) (.slice jN t125.length jT) t125)∧af (Kd.R (Kd.int .i64) 2 wc w.heap.size (fun k_=>some k_ ≠ (cA:Value).ownBlock∧some k_ ≠ ((.slice jN t125.length jT):Value).ownBlock) gp t130)∧af (Kd.V (Kd.slice 2 (Kd.int .i64)) 29 wc w.heap.size (fun k_=>some k_ ≠ (cA:Value).ownBlock∧some k_ ≠ ((.slice jN t125.length jT):Value).ownBlock∧some k_ ≠ (gp:Value).ownBlock∧k_ ≠ eK∧k_ ≠ gK) (.slice gB t104.length gx) t104)∧af (Kd.V (Kd.slice 2 (Kd.int .i64)) 29 wc w.heap.size (fun k_=>some k_ ≠ (cA:Value).ownBlock∧some k_ ≠ ((.slice jN t125.length jT):Value).ownBlock∧some k_ ≠ (gp:Value).ownBlock∧k_ ≠ eK∧k_ ≠ gK) (.slice oY t122.length pq) t122)∧af (wc.heap[eK]?=some (sO t103 gB t104 gx 26))∧af (wc.heap[gK]?=some (sO t121 oY t122 pq 26))∧af (Below w.heap.size w wc))
     case first =>
      have H:=Ml.z
      clear Ml
      replace H:=iE H;obtain ⟨c34,uy,aec,H⟩|⟨uy,aec,H⟩:=H
      case inl =>
       (first|rw [uy]|(simp only [bp,bH];rw [uy])|skip)
       have H':=k0 H
       clear H
       go_wp2
       go_meet
       case rel=>exact ⟨_,(true),rs,(by first|exact H'|(rw [lF];exact H')),⟨by have:=pW.out;first|omega|exact Nat.le_refl _⟩,⟨aR (Kd.aH aI.z (fun _ hk=>⟨hk.1.1.2,hk.1.2⟩))⟩,⟨aR (Kd.aH pY.z (fun _ hk=>⟨hk.1.1.2,hk.1.2⟩))⟩,⟨aR (Kd.aH o7.z (fun _ hk=>⟨hk.1.1.2,hk.1.2⟩))⟩,⟨aV (Kd.bf atg.z (fun _ hk=>⟨hk.1.1.1.1.1,⟨hk.1.1.1.2,⟨hk.1.2,⟨hk.1.1.1.1.2,hk.1.1.2⟩⟩⟩⟩))⟩,⟨aV (Kd.bf sV.z (fun _ hk=>⟨hk.1.1.1.2.1,⟨hk.1.1.1.1,⟨hk.1.2,⟨hk.1.1.1.2.2,hk.1.1.2⟩⟩⟩⟩))⟩,⟨bk⟩,⟨bk⟩,⟨bl⟩⟩
      (first|rw [uy]|(simp only [bp,bH];rw [uy])|skip)
      replace H:=bS H;obtain ⟨t138,A35,H⟩:=H
      have H':=k0 H
      clear H
      obtain ⟨al_,aoP,rfl⟩:=Kd.b9 o7.z
      obtain ⟨aam,avs,rfl⟩:=Kd.b9 z5.z
      go_wp2_with (first|(go_at_call 9;(with_reducible refine (F9.calls avO _ _ t130 _ _ t134 t138 _ ?av ?ax ?bM ?bT A35.z).mono ?_);(case av=>exact aC ((Kd.bD o7.z).2.2));(case ax=>exact (Kd.bD o7.z).2.1);(case bM=>exact aC ((Kd.bD z5.z).2.2));(case bT=>exact (Kd.bD z5.z).2.1);rintro e w' ⟨rfl,⟨nd,rfl⟩⟩;(try exact dN)))
      go_meet
      case rel=>exact ⟨_,(!t138),rs,(by first|exact H'|(rw [lF];exact H')),⟨by have:=pW.out;first|omega|exact Nat.le_refl _⟩,⟨aR (Kd.aH aI.z (fun _ hk=>⟨hk.1.1.2,hk.1.2⟩))⟩,⟨aR (Kd.aH pY.z (fun _ hk=>⟨hk.1.1.2,hk.1.2⟩))⟩,⟨aR (Kd.aH o7.z (fun _ hk=>⟨hk.1.1.2,hk.1.2⟩))⟩,⟨aV (Kd.bf atg.z (fun _ hk=>⟨hk.1.1.1.1.1,⟨hk.1.1.1.2,⟨hk.1.2,⟨hk.1.1.1.1.2,hk.1.1.2⟩⟩⟩⟩))⟩,⟨aV (Kd.bf sV.z (fun _ hk=>⟨hk.1.1.1.2.1,⟨hk.1.1.1.1,⟨hk.1.2,⟨hk.1.1.1.2.2,hk.1.1.2⟩⟩⟩⟩))⟩,⟨bk⟩,⟨bk⟩,⟨bl⟩⟩
     case rest=>as_aux_lemma =>
      clear Ml
      obtain ⟨kq,LC,rfl,HA,q8,aI,cK,fW,atg,eD,bN,eF,HB⟩:=hcut
      cases kq with
      | zero=>exact absurd HA.z (by simp [F4.j1])
      | succ HV =>
       have H:=HA.z
       clear HA
       simp only [F4.j1] at H
       cases LC
       case false =>
        replace H:=iF H
        replace H:=bS H;obtain ⟨⟨t139,t140,t141,t144⟩,Fq,H⟩:=H
        dsimp only at H
        replace H:=bS H;obtain ⟨⟨t146,t149⟩,I1,H⟩:=H
        dsimp only at H
        replace H:=bS H;obtain ⟨⟨t150,t153⟩,I2,H⟩:=H
        dsimp only at H
        have Mm:=k0 H
        clear H
        go_upto_region 16 with (first|(go_at_call 38;(with_reducible refine (DA.calls HV _ _ l0 t139 t140 t141 t144 _ ?av ?ax Fq.z).mono ?_);(case av=>exact aC (Kd.bL dh.z HB.z));(case ax=>exact gG.z);rintro e w43 ⟨akV,rfl,as2,hb⟩;replace atg:=au1 atg hb;replace eD:=au1 eD hb;have qx:=k0 (Kd.vR (Kd.bf (ok':=fun k_=>some k_ ≠ (cA:Value).ownBlock∧some k_ ≠ (.slice jN t125.length jT:Value).ownBlock∧some k_ ≠ (gp:Value).ownBlock∧k_ ≠ eK∧k_ ≠ gK) as2 (fun k_ aU=>⟨(Kd.fresh' (Kd.bV (aR aI.z)) k_ aU),(Kd.fresh' (Kd.bV (aR cK.z)) k_ aU),(Kd.fresh' (Kd.bV (aR fW.z)) k_ aU),(Kd.qK (aB bN.z) k_ aU),(Kd.qK (aB eF.z) k_ aU)⟩)) (as8 bl));replace aI:=eI aI hb;replace cK:=eI cK hb;replace fW:=eI fW hb;replace bN:=kB bN hb;replace eF:=kB eF hb;replace HB:=bW hb)|((with_reducible refine aX (N:=19) rfl ?_);refine eJ 19 #[.int .i64 0,.slice none 0 0] 26 ?_;intro iy hg RD aY hb;replace aI:=eI aI hb;replace cK:=eI cK hb;replace fW:=eI fW hb;replace atg:=atZ atg hg hb;replace eD:=atZ eD hg hb;replace qx:=atZ qx hg hb;have f_:=k0 aY;have aa3:=gW hg (as8 bl);have amy:=aa3;replace HB:=bW hb;have Th:=nL hg bN;replace bN:=kB bN hb;have Tj:=nG Th;have Js:=nL hg eF;replace eF:=kB eF hb;have Tk:=nG Js;clear hb aY hg;have aqQ:=Tj.z;have aq5:=Th.z;have aqR:=Tk.z;have aq6:=Js.z;obtain ⟨apb,apc,apT,apU⟩:=as9 f_;obtain ⟨qq,qH,rfl⟩:=Kd.auA qx.z)|(go_at_call 39;(with_reducible refine (BG.calls HV t139 t140 _ _ t141 t144 t146 t149 _ ?av ?ax I1.z).mono ?_);(case av=>exact rV qx);(case ax=>exact (Kd.gT qx.z).2.1);rintro e RE ⟨fN,rfl,as2,hb⟩;replace atg:=fl atg (Kd.bh as2) hb;replace eD:=fl eD (Kd.bh as2) hb;replace qx:=fl qx (Kd.bh as2) hb;have z6:=k0 (Kd.cg (Kd.cU (Kd.cU (Kd.cU as2 (Kd.bV (nN aI f_))) (Kd.bV (nN cK f_))) (Kd.bV (nN fW f_))) (as8 bl));replace aI:=k0 (Kd.yQ (nN aI f_) (Kd.bh as2) hb);replace cK:=k0 (Kd.yQ (nN cK f_) (Kd.bh as2) hb);replace fW:=k0 (Kd.yQ (nN fW f_) (Kd.bh as2) hb);replace bN:=kF bN hb;replace eF:=kF eF hb;replace f_:=kP (sO t140 qq t141 qH 26) f_ hb;replace HB:=bW hb;obtain ⟨apd,ape,apV,apW⟩:=as9 f_)|(go_at_call 40;(with_reducible refine (oZ.calls HV t139 t140 _ _ t141 t144 t150 t153 _ ?av ?ax I2.z).mono ?_);(case av=>exact aC ((Kd.gT qx.z).2.2));(case ax=>exact (Kd.gT qx.z).2.1);rintro e w51 ⟨asg,rfl,as2,hb⟩;replace atg:=fl atg (Kd.bh as2) hb;replace eD:=fl eD (Kd.bh as2) hb;replace qx:=fl qx (Kd.bh as2) hb;have My:=k0 (Kd.cg (Kd.cU (Kd.cU (Kd.cU (Kd.cU as2 (Kd.bV (aR aI.z))) (Kd.bV (aR cK.z))) (Kd.bV (aR fW.z))) (Kd.bV (aR z6.z))) (as8 bl));replace aI:=eO aI (Kd.bh as2) hb;replace cK:=eO cK (Kd.bh as2) hb;replace fW:=eO fW (Kd.bh as2) hb;replace z6:=eO z6 (Kd.bh as2) hb;replace bN:=kB bN hb;replace eF:=kB eF hb;replace f_:=kB f_ hb;replace HB:=bW hb))
        (try simp only [Act.put,zI,zZ,zS])
        go_cut [133] (fun akT wc=>∃ (kq:Nat) (LD:Bool),akT=.bool LD∧af (F4.j2 kq l0 t111 t114 t120 t125 t128 t130 t133 t139 t144 t146 t149 LD t121 t122 t140 t141=some r)∧af (kq≤HV)∧af (Kd.R (Kd.int .i64) 2 wc w.heap.size (fun k_=>some k_ ≠ ((.slice jN t125.length jT):Value).ownBlock∧some k_ ≠ (gp:Value).ownBlock∧some k_ ≠ (fN:Value).ownBlock) cA t111)∧af (Kd.R (Kd.int .i64) 2 wc w.heap.size (fun k_=>some k_ ≠ (cA:Value).ownBlock∧some k_ ≠ (gp:Value).ownBlock∧some k_ ≠ (fN:Value).ownBlock) (.slice jN t125.length jT) t125)∧af (Kd.R (Kd.int .i64) 2 wc w.heap.size (fun k_=>some k_ ≠ (cA:Value).ownBlock∧some k_ ≠ ((.slice jN t125.length jT):Value).ownBlock∧some k_ ≠ (fN:Value).ownBlock) gp t130)∧af (Kd.R (Kd.int .i64) 2 wc w.heap.size (fun k_=>some k_ ≠ (cA:Value).ownBlock∧some k_ ≠ ((.slice jN t125.length jT):Value).ownBlock∧some k_ ≠ (gp:Value).ownBlock) fN t146)∧af (Kd.V (Kd.slice 2 (Kd.int .i64)) 29 wc w.heap.size (fun k_=>some k_ ≠ (cA:Value).ownBlock∧some k_ ≠ ((.slice jN t125.length jT):Value).ownBlock∧some k_ ≠ (gp:Value).ownBlock∧some k_ ≠ (fN:Value).ownBlock∧k_ ≠ eK∧k_ ≠ gK∧k_ ≠ iy) (.slice gB t104.length gx) t104)∧af (Kd.V (Kd.slice 2 (Kd.int .i64)) 29 wc w.heap.size (fun k_=>some k_ ≠ (cA:Value).ownBlock∧some k_ ≠ ((.slice jN t125.length jT):Value).ownBlock∧some k_ ≠ (gp:Value).ownBlock∧some k_ ≠ (fN:Value).ownBlock∧k_ ≠ eK∧k_ ≠ gK∧k_ ≠ iy) (.slice oY t122.length pq) t122)∧af (Kd.V (Kd.slice 2 (Kd.int .i64)) 29 wc w.heap.size (fun k_=>some k_ ≠ (cA:Value).ownBlock∧some k_ ≠ ((.slice jN t125.length jT):Value).ownBlock∧some k_ ≠ (gp:Value).ownBlock∧some k_ ≠ (fN:Value).ownBlock∧k_ ≠ eK∧k_ ≠ gK∧k_ ≠ iy) (.slice qq t141.length qH) t141)∧af (wc.heap[eK]?=some (sO t103 gB t104 gx 26))∧af (wc.heap[gK]?=some (sO t121 oY t122 pq 26))∧af (wc.heap[iy]?=some (sO t140 qq t141 qH 26))∧af (Below w.heap.size w wc))
        case first =>
         have H:=Mm.z
         clear Mm
         replace H:=iE H;obtain ⟨c52,rz,aek,H⟩|⟨rz,aek,H⟩:=H
         case inl =>
          (first|rw [rz]|(simp only [bp,bH];rw [rz])|skip)
          have H':=k0 H
          clear H
          go_wp2
          go_meet
          case rel=>exact ⟨_,(true),rs,(by first|exact H'|(rw [lF];exact H')),⟨by have:=pW.out;have:=q8.out;first|omega|exact Nat.le_refl _⟩,⟨aR (Kd.aH aI.z (fun _ hk=>⟨hk.1.1.1,⟨hk.1.1.2,hk.1.2⟩⟩))⟩,⟨aR (Kd.aH cK.z (fun _ hk=>⟨hk.1.1.1,⟨hk.1.1.2,hk.1.2⟩⟩))⟩,⟨aR (Kd.aH fW.z (fun _ hk=>⟨hk.1.1.1,⟨hk.1.1.2,hk.1.2⟩⟩))⟩,⟨aR (Kd.aH z6.z (fun _ hk=>⟨hk.1.1.1.2,⟨hk.1.1.2,hk.1.2⟩⟩))⟩,⟨aV (Kd.bf atg.z (fun _ hk=>⟨hk.1.1.1.1,⟨hk.1.1.1.2.1,⟨hk.1.1.1.2.2.1,⟨hk.1.2,⟨hk.1.1.1.2.2.2.1,⟨hk.1.1.1.2.2.2.2,hk.1.1.2⟩⟩⟩⟩⟩⟩))⟩,⟨aV (Kd.bf eD.z (fun _ hk=>⟨hk.1.1.1.1,⟨hk.1.1.1.2.1,⟨hk.1.1.1.2.2.1,⟨hk.1.2,⟨hk.1.1.1.2.2.2.1,⟨hk.1.1.1.2.2.2.2,hk.1.1.2⟩⟩⟩⟩⟩⟩))⟩,⟨aV (Kd.bf qx.z (fun _ hk=>⟨hk.1.1.1.1,⟨hk.1.1.1.2.1,⟨hk.1.1.1.2.2.1,⟨hk.1.2,⟨hk.1.1.1.2.2.2.1,⟨hk.1.1.1.2.2.2.2,hk.1.1.2⟩⟩⟩⟩⟩⟩))⟩,⟨bk⟩,⟨bk⟩,⟨bk⟩,⟨bl⟩⟩
         (first|rw [rz]|(simp only [bp,bH];rw [rz])|skip)
         replace H:=bS H;obtain ⟨t154,A53,H⟩:=H
         have H':=k0 H
         clear H
         obtain ⟨Du,Ew,rfl⟩:=Kd.b9 z6.z
         obtain ⟨Dv,vW,rfl⟩:=Kd.b9 My.z
         go_wp2_with (first|(go_at_call 9;(with_reducible refine (F9.calls HV _ _ t146 _ _ t150 t154 _ ?av ?ax ?bM ?bT A53.z).mono ?_);(case av=>exact aC ((Kd.bD z6.z).2.2));(case ax=>exact (Kd.bD z6.z).2.1);(case bM=>exact aC ((Kd.bD My.z).2.2));(case bT=>exact (Kd.bD My.z).2.1);rintro e w' ⟨rfl,⟨nd,rfl⟩⟩;(try exact dN)))
         go_meet
         case rel=>exact ⟨_,(!t154),rs,(by first|exact H'|(rw [lF];exact H')),⟨by have:=pW.out;have:=q8.out;first|omega|exact Nat.le_refl _⟩,⟨aR (Kd.aH aI.z (fun _ hk=>⟨hk.1.1.1,⟨hk.1.1.2,hk.1.2⟩⟩))⟩,⟨aR (Kd.aH cK.z (fun _ hk=>⟨hk.1.1.1,⟨hk.1.1.2,hk.1.2⟩⟩))⟩,⟨aR (Kd.aH fW.z (fun _ hk=>⟨hk.1.1.1,⟨hk.1.1.2,hk.1.2⟩⟩))⟩,⟨aR (Kd.aH z6.z (fun _ hk=>⟨hk.1.1.1.2,⟨hk.1.1.2,hk.1.2⟩⟩))⟩,⟨aV (Kd.bf atg.z (fun _ hk=>⟨hk.1.1.1.1,⟨hk.1.1.1.2.1,⟨hk.1.1.1.2.2.1,⟨hk.1.2,⟨hk.1.1.1.2.2.2.1,⟨hk.1.1.1.2.2.2.2,hk.1.1.2⟩⟩⟩⟩⟩⟩))⟩,⟨aV (Kd.bf eD.z (fun _ hk=>⟨hk.1.1.1.1,⟨hk.1.1.1.2.1,⟨hk.1.1.1.2.2.1,⟨hk.1.2,⟨hk.1.1.1.2.2.2.1,⟨hk.1.1.1.2.2.2.2,hk.1.1.2⟩⟩⟩⟩⟩⟩))⟩,⟨aV (Kd.bf qx.z (fun _ hk=>⟨hk.1.1.1.1,⟨hk.1.1.1.2.1,⟨hk.1.1.1.2.2.1,⟨hk.1.2,⟨hk.1.1.1.2.2.2.1,⟨hk.1.1.1.2.2.2.2,hk.1.1.2⟩⟩⟩⟩⟩⟩))⟩,⟨bk⟩,⟨bk⟩,⟨bk⟩,⟨bl⟩⟩
        case rest=>as_aux_lemma =>
         clear Mm
         obtain ⟨kq,LD,rfl,HA,sS,aI,cK,fW,fK,atg,eD,gf,bN,eF,f_,HB⟩:=hcut
         cases kq with
         | zero=>exact absurd HA.z (by simp [F4.j2])
         | succ avQ =>
          have H:=HA.z
          clear HA
          simp only [F4.j2] at H
          cases LD
          case false =>
           replace H:=iF H
           replace H:=bS H;obtain ⟨⟨t155,t156,t157,t160,t163⟩,A57,H⟩:=H
           dsimp only at H
           replace H:=bS H;obtain ⟨⟨t167,t168⟩,BB,H⟩:=H
           dsimp only at H
           replace H:=bS H;obtain ⟨⟨t169,t170⟩,Fs,H⟩:=H
           dsimp only at H
           have Mo:=k0 H
           clear H
           go_upto_region 21 with (first|(go_at_call 41;(with_reducible refine (aur.calls avQ _ _ l0 t155 t156 t157 t160 t163 _ ?av ?ax A57.z).mono ?_);(case av=>exact aC (Kd.bL dh.z HB.z));(case ax=>exact gG.z);rintro e w61 ⟨asi,Zw,Lt,rfl,as2,k8,auj,hb⟩;replace atg:=k0 (Kd.bf (Kd.avo (Kd.avo (Kd.NB (aV atg.z) hb) (Kd.bh k8)) (Kd.bh auj)) (fun _ h_=>h_.1));replace eD:=k0 (Kd.bf (Kd.avo (Kd.avo (Kd.NB (aV eD.z) hb) (Kd.bh k8)) (Kd.bh auj)) (fun _ h_=>h_.1));replace gf:=k0 (Kd.bf (Kd.avo (Kd.avo (Kd.NB (aV gf.z) hb) (Kd.bh k8)) (Kd.bh auj)) (fun _ h_=>h_.1));have sX:=k0 (Kd.vR (Kd.bf (ok':=fun k_=>some k_ ≠ (Zw:Value).ownBlock∧some k_ ≠ (Lt:Value).ownBlock∧some k_ ≠ (cA:Value).ownBlock∧some k_ ≠ (.slice jN t125.length jT:Value).ownBlock∧some k_ ≠ (gp:Value).ownBlock∧some k_ ≠ (fN:Value).ownBlock∧k_ ≠ eK∧k_ ≠ gK∧k_ ≠ iy) as2 (fun k_ aU=>⟨aU.2.1,aU.2.2,(Kd.fresh' (Kd.bV (aR aI.z)) k_ aU.1),(Kd.fresh' (Kd.bV (aR cK.z)) k_ aU.1),(Kd.fresh' (Kd.bV (aR fW.z)) k_ aU.1),(Kd.fresh' (Kd.bV (aR fK.z)) k_ aU.1),(Kd.qK (aB bN.z) k_ aU.1),(Kd.qK (aB eF.z) k_ aU.1),(Kd.qK (aB f_.z) k_ aU.1)⟩)) (as8 bl));have vB:=k0 (Kd.cg (Kd.cU (Kd.cU (Kd.cU (Kd.cU (Kd.aH (ok':=fun k_=>some k_ ≠ (Lt:Value).ownBlock) k8 (fun _ aU=>aU.2)) (Kd.bV (aR aI.z))) (Kd.bV (aR cK.z))) (Kd.bV (aR fW.z))) (Kd.bV (aR fK.z))) (as8 bl));have vC:=k0 (Kd.cg (Kd.cU (Kd.cU (Kd.cU (Kd.cU (Kd.aH (ok':=fun k_=>some k_ ≠ (Zw:Value).ownBlock) auj (fun _ aU=>aU.2)) (Kd.bV (aR aI.z))) (Kd.bV (aR cK.z))) (Kd.bV (aR fW.z))) (Kd.bV (aR fK.z))) (as8 bl));replace aI:=k0 (Kd.aH (Kd.yR (Kd.yR (Kd.Jx (aR aI.z) hb) (Kd.bh k8)) (Kd.bh auj)) (fun _ h_=>h_.1));replace cK:=k0 (Kd.aH (Kd.yR (Kd.yR (Kd.Jx (aR cK.z) hb) (Kd.bh k8)) (Kd.bh auj)) (fun _ h_=>h_.1));replace fW:=k0 (Kd.aH (Kd.yR (Kd.yR (Kd.Jx (aR fW.z) hb) (Kd.bh k8)) (Kd.bh auj)) (fun _ h_=>h_.1));replace fK:=k0 (Kd.aH (Kd.yR (Kd.yR (Kd.Jx (aR fK.z) hb) (Kd.bh k8)) (Kd.bh auj)) (fun _ h_=>h_.1));replace bN:=kB bN hb;replace eF:=kB eF hb;replace f_:=kB f_ hb;replace HB:=bW hb)|((with_reducible refine aX (N:=26) rfl ?_);refine eJ 26 #[.int .i64 0,.slice none 0 0] 26 ?_;intro jF hg w62 aY hb;replace aI:=eI aI hb;replace cK:=eI cK hb;replace fW:=eI fW hb;replace fK:=eI fK hb;replace atg:=atZ atg hg hb;replace eD:=atZ eD hg hb;replace gf:=atZ gf hg hb;replace sX:=atZ sX hg hb;replace vB:=eI vB hb;replace vC:=eI vC hb;have jB:=k0 aY;have aa4:=gW hg (as8 bl);have amz:=aa4;replace HB:=bW hb;have Ti:=nL hg bN;replace bN:=kB bN hb;have ach:=nG Ti;have Jt:=nL hg eF;replace eF:=kB eF hb;have aci:=nG Jt;have Nq:=nL hg f_;replace f_:=kB f_ hb;have acj:=nG Nq;clear hb aY hg;have aqS:=ach.z;have aq7:=Ti.z;have aqT:=aci.z;have aq8:=Jt.z;have aqU:=acj.z;have aq9:=Nq.z;obtain ⟨apf,apg,apX,apY⟩:=as9 jB;obtain ⟨rS,r7,rfl⟩:=Kd.auA sX.z;obtain ⟨L5,Om,rfl⟩:=Kd.b9 vB.z;obtain ⟨amh,aoY,rfl⟩:=Kd.b9 vC.z)|(go_at_call 42;(with_reducible refine (qu.calls avQ t155 t156 _ _ t157 _ _ t160 _ _ t163 t167 t168 _ ?av ?ax ?bM ?bT ?iG ?rJ BB.z).mono ?_);(case av=>exact rV sX);(case ax=>exact (Kd.gT sX.z).2.1);(case bM=>exact Lo vB jB);(case bT=>exact (Kd.bD vB.z).2.1);(case iG=>exact Lo vC jB);(case rJ=>exact (Kd.bD vC.z).2.1);rintro e w70 ⟨rfl,hb⟩;replace aI:=k0 (Kd.vO (nN aI jB) hb);replace cK:=k0 (Kd.vO (nN cK jB) hb);replace fW:=k0 (Kd.vO (nN fW jB) hb);replace fK:=k0 (Kd.vO (nN fK jB) hb);replace atg:=au1 atg hb;replace eD:=au1 eD hb;replace gf:=au1 gf hb;replace sX:=au1 sX hb;replace vB:=k0 (Kd.vO (nN vB jB) hb);replace vC:=k0 (Kd.vO (nN vC jB) hb);replace bN:=kF bN hb;replace eF:=kF eF hb;replace f_:=kF f_ hb;replace jB:=kP (sO t156 rS t157 r7 26) jB hb;replace HB:=bW hb;obtain ⟨aph,api,apZ,ap0⟩:=as9 jB)|(go_at_call 43;(with_reducible refine (ir.calls avQ t155 t156 _ _ t157 _ _ t160 _ _ t163 t169 t170 _ ?av ?ax ?bM ?bT ?iG ?rJ Fs.z).mono ?_);(case av=>exact aC ((Kd.gT sX.z).2.2));(case ax=>exact (Kd.gT sX.z).2.1);(case bM=>exact aC ((Kd.bD vB.z).2.2));(case bT=>exact (Kd.bD vB.z).2.1);(case iG=>exact aC ((Kd.bD vC.z).2.2));(case rJ=>exact (Kd.bD vC.z).2.1);rintro e ZL ⟨rfl,hb⟩;replace aI:=eI aI hb;replace cK:=eI cK hb;replace fW:=eI fW hb;replace fK:=eI fK hb;replace atg:=au1 atg hb;replace eD:=au1 eD hb;replace gf:=au1 gf hb;replace sX:=au1 sX hb;replace vB:=eI vB hb;replace vC:=eI vC hb;replace bN:=kB bN hb;replace eF:=kB eF hb;replace f_:=kB f_ hb;replace jB:=kB jB hb;replace HB:=bW hb))
           (try simp only [Act.put,zI,zZ,zS])
           go_cut [164] (fun Lt wc=>∃ (kq:Nat) (LF:Bool),Lt=.bool LF∧af (F4.j3 kq t111 t114 t120 t125 t128 t130 t133 t139 t144 t146 t149 LF t121 t122 t140 t141=some r)∧af (kq≤avQ)∧af (Kd.R (Kd.int .i64) 2 wc w.heap.size (fun k_=>some k_ ≠ ((.slice jN t125.length jT):Value).ownBlock∧some k_ ≠ (gp:Value).ownBlock∧some k_ ≠ (fN:Value).ownBlock) cA t111)∧af (Kd.R (Kd.int .i64) 2 wc w.heap.size (fun k_=>some k_ ≠ (cA:Value).ownBlock∧some k_ ≠ (gp:Value).ownBlock∧some k_ ≠ (fN:Value).ownBlock) (.slice jN t125.length jT) t125)∧af (Kd.R (Kd.int .i64) 2 wc w.heap.size (fun k_=>some k_ ≠ (cA:Value).ownBlock∧some k_ ≠ ((.slice jN t125.length jT):Value).ownBlock∧some k_ ≠ (fN:Value).ownBlock) gp t130)∧af (Kd.R (Kd.int .i64) 2 wc w.heap.size (fun k_=>some k_ ≠ (cA:Value).ownBlock∧some k_ ≠ ((.slice jN t125.length jT):Value).ownBlock∧some k_ ≠ (gp:Value).ownBlock) fN t146)∧af (Kd.V (Kd.slice 2 (Kd.int .i64)) 29 wc w.heap.size (fun k_=>some k_ ≠ (cA:Value).ownBlock∧some k_ ≠ ((.slice jN t125.length jT):Value).ownBlock∧some k_ ≠ (gp:Value).ownBlock∧some k_ ≠ (fN:Value).ownBlock∧k_ ≠ eK∧k_ ≠ gK∧k_ ≠ iy∧k_ ≠ jF) (.slice gB t104.length gx) t104)∧af (Kd.V (Kd.slice 2 (Kd.int .i64)) 29 wc w.heap.size (fun k_=>some k_ ≠ (cA:Value).ownBlock∧some k_ ≠ ((.slice jN t125.length jT):Value).ownBlock∧some k_ ≠ (gp:Value).ownBlock∧some k_ ≠ (fN:Value).ownBlock∧k_ ≠ eK∧k_ ≠ gK∧k_ ≠ iy∧k_ ≠ jF) (.slice oY t122.length pq) t122)∧af (Kd.V (Kd.slice 2 (Kd.int .i64)) 29 wc w.heap.size (fun k_=>some k_ ≠ (cA:Value).ownBlock∧some k_ ≠ ((.slice jN t125.length jT):Value).ownBlock∧some k_ ≠ (gp:Value).ownBlock∧some k_ ≠ (fN:Value).ownBlock∧k_ ≠ eK∧k_ ≠ gK∧k_ ≠ iy∧k_ ≠ jF) (.slice qq t141.length qH) t141)∧af (Kd.V (Kd.slice 2 (Kd.int .i64)) 29 wc w.heap.size (fun k_=>some k_ ≠ (cA:Value).ownBlock∧some k_ ≠ ((.slice jN t125.length jT):Value).ownBlock∧some k_ ≠ (gp:Value).ownBlock∧some k_ ≠ (fN:Value).ownBlock∧k_ ≠ eK∧k_ ≠ gK∧k_ ≠ iy∧k_ ≠ jF) (.slice rS t157.length r7) t157)∧af (wc.heap[eK]?=some (sO t103 gB t104 gx 26))∧af (wc.heap[gK]?=some (sO t121 oY t122 pq 26))∧af (wc.heap[iy]?=some (sO t140 qq t141 qH 26))∧af (wc.heap[jF]?=some (sO t156 rS t157 r7 26))∧af (Below w.heap.size w wc))
           case first =>
            have H:=Mo.z
            clear Mo
            replace H:=iE H;obtain ⟨c73,Ck,aew,H⟩|⟨Ck,aew,H⟩:=H
            case inl =>
             (first|rw [Ck]|(simp only [bp,bH];rw [Ck])|skip)
             have H':=k0 H
             clear H
             go_wp2
             go_meet
             case rel=>exact ⟨_,(true),rs,(by first|exact H'|(rw [lF];exact H')),⟨by have:=pW.out;have:=q8.out;have:=sS.out;first|omega|exact Nat.le_refl _⟩,⟨aR (Kd.aH aI.z (fun _ hk=>⟨hk.1.1.1,⟨hk.1.1.2.1,hk.1.1.2.2⟩⟩))⟩,⟨aR (Kd.aH cK.z (fun _ hk=>⟨hk.1.1.1,⟨hk.1.1.2.1,hk.1.1.2.2⟩⟩))⟩,⟨aR (Kd.aH fW.z (fun _ hk=>⟨hk.1.1.1,⟨hk.1.1.2.1,hk.1.1.2.2⟩⟩))⟩,⟨aR (Kd.aH fK.z (fun _ hk=>⟨hk.1.1.1,⟨hk.1.1.2.1,hk.1.1.2.2⟩⟩))⟩,⟨aV (Kd.bf atg.z (fun _ hk=>⟨hk.1.1.1.1,⟨hk.1.1.1.2.1,⟨hk.1.1.1.2.2.1,⟨hk.1.1.1.2.2.2.1,⟨hk.1.1.1.2.2.2.2.1,⟨hk.1.1.1.2.2.2.2.2.1,⟨hk.1.1.1.2.2.2.2.2.2,hk.2⟩⟩⟩⟩⟩⟩⟩))⟩,⟨aV (Kd.bf eD.z (fun _ hk=>⟨hk.1.1.1.1,⟨hk.1.1.1.2.1,⟨hk.1.1.1.2.2.1,⟨hk.1.1.1.2.2.2.1,⟨hk.1.1.1.2.2.2.2.1,⟨hk.1.1.1.2.2.2.2.2.1,⟨hk.1.1.1.2.2.2.2.2.2,hk.2⟩⟩⟩⟩⟩⟩⟩))⟩,⟨aV (Kd.bf gf.z (fun _ hk=>⟨hk.1.1.1.1,⟨hk.1.1.1.2.1,⟨hk.1.1.1.2.2.1,⟨hk.1.1.1.2.2.2.1,⟨hk.1.1.1.2.2.2.2.1,⟨hk.1.1.1.2.2.2.2.2.1,⟨hk.1.1.1.2.2.2.2.2.2,hk.2⟩⟩⟩⟩⟩⟩⟩))⟩,⟨aV (Kd.bf sX.z (fun _ hk=>⟨hk.1.2.2.1,⟨hk.1.2.2.2.1,⟨hk.1.2.2.2.2.1,⟨hk.1.2.2.2.2.2.1,⟨hk.1.2.2.2.2.2.2.1,⟨hk.1.2.2.2.2.2.2.2.1,⟨hk.1.2.2.2.2.2.2.2.2,hk.2⟩⟩⟩⟩⟩⟩⟩))⟩,⟨bk⟩,⟨bk⟩,⟨bk⟩,⟨bk⟩,⟨bl⟩⟩
            (first|rw [Ck]|(simp only [bp,bH];rw [Ck])|skip)
            have H':=k0 H
            clear H
            go_wp2
            go_meet
            case rel=>exact ⟨_,((t167 != t169)),rs,(by first|exact H'|(rw [lF];exact H')),⟨by have:=pW.out;have:=q8.out;have:=sS.out;first|omega|exact Nat.le_refl _⟩,⟨aR (Kd.aH aI.z (fun _ hk=>⟨hk.1.1.1,⟨hk.1.1.2.1,hk.1.1.2.2⟩⟩))⟩,⟨aR (Kd.aH cK.z (fun _ hk=>⟨hk.1.1.1,⟨hk.1.1.2.1,hk.1.1.2.2⟩⟩))⟩,⟨aR (Kd.aH fW.z (fun _ hk=>⟨hk.1.1.1,⟨hk.1.1.2.1,hk.1.1.2.2⟩⟩))⟩,⟨aR (Kd.aH fK.z (fun _ hk=>⟨hk.1.1.1,⟨hk.1.1.2.1,hk.1.1.2.2⟩⟩))⟩,⟨aV (Kd.bf atg.z (fun _ hk=>⟨hk.1.1.1.1,⟨hk.1.1.1.2.1,⟨hk.1.1.1.2.2.1,⟨hk.1.1.1.2.2.2.1,⟨hk.1.1.1.2.2.2.2.1,⟨hk.1.1.1.2.2.2.2.2.1,⟨hk.1.1.1.2.2.2.2.2.2,hk.2⟩⟩⟩⟩⟩⟩⟩))⟩,⟨aV (Kd.bf eD.z (fun _ hk=>⟨hk.1.1.1.1,⟨hk.1.1.1.2.1,⟨hk.1.1.1.2.2.1,⟨hk.1.1.1.2.2.2.1,⟨hk.1.1.1.2.2.2.2.1,⟨hk.1.1.1.2.2.2.2.2.1,⟨hk.1.1.1.2.2.2.2.2.2,hk.2⟩⟩⟩⟩⟩⟩⟩))⟩,⟨aV (Kd.bf gf.z (fun _ hk=>⟨hk.1.1.1.1,⟨hk.1.1.1.2.1,⟨hk.1.1.1.2.2.1,⟨hk.1.1.1.2.2.2.1,⟨hk.1.1.1.2.2.2.2.1,⟨hk.1.1.1.2.2.2.2.2.1,⟨hk.1.1.1.2.2.2.2.2.2,hk.2⟩⟩⟩⟩⟩⟩⟩))⟩,⟨aV (Kd.bf sX.z (fun _ hk=>⟨hk.1.2.2.1,⟨hk.1.2.2.2.1,⟨hk.1.2.2.2.2.1,⟨hk.1.2.2.2.2.2.1,⟨hk.1.2.2.2.2.2.2.1,⟨hk.1.2.2.2.2.2.2.2.1,⟨hk.1.2.2.2.2.2.2.2.2,hk.2⟩⟩⟩⟩⟩⟩⟩))⟩,⟨bk⟩,⟨bk⟩,⟨bk⟩,⟨bk⟩,⟨bl⟩⟩
           case rest=>as_aux_lemma =>
            clear Mo
            obtain ⟨kq,LF,rfl,HA,vA,aI,cK,fW,fK,atg,eD,gf,kA,bN,eF,f_,jB,HB⟩:=hcut
            cases kq with
            | zero=>exact absurd HA.z (by simp [F4.j3])
            | succ avN =>
             have H:=HA.z
             clear HA
             simp only [F4.j3] at H
             cases LF
             case false =>
              replace H:=iF H
              have Mq:=k0 H
              clear H
              go_upto_if 166 with (fail)
              go_cut [] (fun wc=>∃ (kq:Nat),af (F4.j6 kq t111 t114 t139 t144 t146 t149 t140 t141=some r)∧af (kq≤avN)∧af (Kd.R (Kd.int .i64) 2 wc w.heap.size (fun k_=>some k_ ≠ (fN:Value).ownBlock) cA t111)∧af (Kd.R (Kd.int .i64) 2 wc w.heap.size (fun k_=>some k_ ≠ (cA:Value).ownBlock) fN t146)∧af (Kd.V (Kd.slice 2 (Kd.int .i64)) 29 wc w.heap.size (fun k_=>some k_ ≠ (cA:Value).ownBlock∧some k_ ≠ (fN:Value).ownBlock∧k_ ≠ eK∧k_ ≠ gK∧k_ ≠ iy∧k_ ≠ jF) (.slice gB t104.length gx) t104)∧af (Kd.V (Kd.slice 2 (Kd.int .i64)) 29 wc w.heap.size (fun k_=>some k_ ≠ (cA:Value).ownBlock∧some k_ ≠ (fN:Value).ownBlock∧k_ ≠ eK∧k_ ≠ gK∧k_ ≠ iy∧k_ ≠ jF) (.slice oY t122.length pq) t122)∧af (Kd.V (Kd.slice 2 (Kd.int .i64)) 29 wc w.heap.size (fun k_=>some k_ ≠ (cA:Value).ownBlock∧some k_ ≠ (fN:Value).ownBlock∧k_ ≠ eK∧k_ ≠ gK∧k_ ≠ iy∧k_ ≠ jF) (.slice qq t141.length qH) t141)∧af (Kd.V (Kd.slice 2 (Kd.int .i64)) 29 wc w.heap.size (fun k_=>some k_ ≠ (cA:Value).ownBlock∧some k_ ≠ (fN:Value).ownBlock∧k_ ≠ eK∧k_ ≠ gK∧k_ ≠ iy∧k_ ≠ jF) (.slice rS t157.length r7) t157)∧af (wc.heap[eK]?=some (sO t103 gB t104 gx 26))∧af (wc.heap[gK]?=some (sO t121 oY t122 pq 26))∧af (wc.heap[iy]?=some (sO t140 qq t141 qH 26))∧af (wc.heap[jF]?=some (sO t156 rS t157 r7 26))∧af (Below w.heap.size w wc))
              case first =>
               have H:=Mq.z
               clear Mq
               replace H:=iE H;obtain ⟨c76,Ge,aey,H⟩|⟨Ge,aey,H⟩:=H
               case inl =>
                (first|rw [Ge]|(simp only [bp,bH];rw [Ge])|skip)
                have H':=k0 H
                clear H
                go_wp2
                go_meet
                case rel=>exact ⟨_,(by first|exact H'|(rw [lF];exact H')),⟨by have:=pW.out;have:=q8.out;have:=sS.out;have:=vA.out;first|omega|exact Nat.le_refl _⟩,⟨aR (Kd.aH aI.z (fun _ hk=>hk.2.2))⟩,⟨aR (Kd.aH fK.z (fun _ hk=>hk.1))⟩,⟨aV (Kd.bf atg.z (fun _ hk=>⟨hk.1,⟨hk.2.2.2.1,⟨hk.2.2.2.2.1,⟨hk.2.2.2.2.2.1,⟨hk.2.2.2.2.2.2.1,hk.2.2.2.2.2.2.2⟩⟩⟩⟩⟩))⟩,⟨aV (Kd.bf eD.z (fun _ hk=>⟨hk.1,⟨hk.2.2.2.1,⟨hk.2.2.2.2.1,⟨hk.2.2.2.2.2.1,⟨hk.2.2.2.2.2.2.1,hk.2.2.2.2.2.2.2⟩⟩⟩⟩⟩))⟩,⟨aV (Kd.bf gf.z (fun _ hk=>⟨hk.1,⟨hk.2.2.2.1,⟨hk.2.2.2.2.1,⟨hk.2.2.2.2.2.1,⟨hk.2.2.2.2.2.2.1,hk.2.2.2.2.2.2.2⟩⟩⟩⟩⟩))⟩,⟨aV (Kd.bf kA.z (fun _ hk=>⟨hk.1,⟨hk.2.2.2.1,⟨hk.2.2.2.2.1,⟨hk.2.2.2.2.2.1,⟨hk.2.2.2.2.2.2.1,hk.2.2.2.2.2.2.2⟩⟩⟩⟩⟩))⟩,⟨bk⟩,⟨bk⟩,⟨bk⟩,⟨bk⟩,⟨bl⟩⟩
               (first|rw [Ge]|(simp only [bp,bH];rw [Ge])|skip)
               replace H:=bS H;obtain ⟨⟨t171,t174⟩,R2,H⟩:=H
               dsimp only at H
               replace H:=iE H;obtain ⟨c78,N8,N9,H⟩|⟨N8,N9,H⟩:=H
               case inl =>
                obtain rfl:=Option.some.inj H
                obtain ⟨_,_⟩:=nE Np
                obtain ⟨_,_⟩:=nE Js
                obtain ⟨_,_⟩:=nE Jt
                obtain ⟨_,_,_,_⟩:=as9 eF
                go_wp2_with (first|(go_at_call 33;(with_reducible refine (uf.calls avN t120 t121 _ _ t122 _ _ t125 t171 t174 _ ?av ?ax ?bM ?bT R2.z).mono ?_);(case av=>exact aC ((Kd.gT eD.z).2.2));(case ax=>exact (Kd.gT eD.z).2.1);(case bM=>exact aC ((Kd.bD cK.z).2.2));(case bT=>exact (Kd.bD cK.z).2.1);rintro e asR ⟨zy,rfl,as2,hb⟩;replace atg:=fl atg (Kd.bh as2) hb;replace eD:=fl eD (Kd.bh as2) hb;replace gf:=fl gf (Kd.bh as2) hb;replace kA:=fl kA (Kd.bh as2) hb;have SN:=k0 (Kd.cg (Kd.cU (Kd.cU (Kd.cU (Kd.cU as2 (Kd.bV (aR aI.z))) (Kd.bV (aR cK.z))) (Kd.bV (aR fW.z))) (Kd.bV (aR fK.z))) (as8 bl));replace aI:=eO aI (Kd.bh as2) hb;replace cK:=eO cK (Kd.bh as2) hb;replace fW:=eO fW (Kd.bh as2) hb;replace fK:=eO fK (Kd.bh as2) hb;replace bN:=kB bN hb;replace eF:=kB eF hb;replace f_:=kB f_ hb;replace jB:=kB jB hb;replace HB:=bW hb))
                go_ret
                exact ⟨eR,bl⟩
               have H':=k0 H
               clear H
               obtain ⟨_,_⟩:=nE Np
               obtain ⟨_,_⟩:=nE Js
               obtain ⟨_,_⟩:=nE Jt
               obtain ⟨_,_,_,_⟩:=as9 eF
               go_wp2_with (first|(go_at_call 33;(with_reducible refine (uf.calls avN t120 t121 _ _ t122 _ _ t125 t171 t174 _ ?av ?ax ?bM ?bT R2.z).mono ?_);(case av=>exact aC ((Kd.gT eD.z).2.2));(case ax=>exact (Kd.gT eD.z).2.1);(case bM=>exact aC ((Kd.bD cK.z).2.2));(case bT=>exact (Kd.bD cK.z).2.1);rintro e w83 ⟨zy,rfl,as2,hb⟩;replace atg:=fl atg (Kd.bh as2) hb;replace eD:=fl eD (Kd.bh as2) hb;replace gf:=fl gf (Kd.bh as2) hb;replace kA:=fl kA (Kd.bh as2) hb;have SN:=k0 (Kd.cg (Kd.cU (Kd.cU (Kd.cU (Kd.cU as2 (Kd.bV (aR aI.z))) (Kd.bV (aR cK.z))) (Kd.bV (aR fW.z))) (Kd.bV (aR fK.z))) (as8 bl));replace aI:=eO aI (Kd.bh as2) hb;replace cK:=eO cK (Kd.bh as2) hb;replace fW:=eO fW (Kd.bh as2) hb;replace fK:=eO fK (Kd.bh as2) hb;replace bN:=kB bN hb;replace eF:=kB eF hb;replace f_:=kB f_ hb;replace jB:=kB jB hb;replace HB:=bW hb))
               go_loopg [35] avN (fun kq v35 w'=>∃ (tU:Int),v35=.int .i64 tU∧af (F4.l0 kq t111 t114 t120 t128 t130 t139 t144 t146 t149 t171 tU t140 t141=some r)∧af (kq≤avN)∧af (Kd.R (Kd.int .i64) 2 w' w.heap.size (fun k_=>some k_ ≠ (gp:Value).ownBlock∧some k_ ≠ (fN:Value).ownBlock∧some k_ ≠ (zy:Value).ownBlock) cA t111)∧af (Kd.R (Kd.int .i64) 2 w' w.heap.size (fun k_=>some k_ ≠ (cA:Value).ownBlock∧some k_ ≠ (fN:Value).ownBlock∧some k_ ≠ (zy:Value).ownBlock) gp t130)∧af (Kd.R (Kd.int .i64) 2 w' w.heap.size (fun k_=>some k_ ≠ (cA:Value).ownBlock∧some k_ ≠ (gp:Value).ownBlock∧some k_ ≠ (zy:Value).ownBlock) fN t146)∧af (Kd.R (Kd.int .i64) 2 w' w.heap.size (fun k_=>some k_ ≠ (cA:Value).ownBlock∧some k_ ≠ (gp:Value).ownBlock∧some k_ ≠ (fN:Value).ownBlock) zy t171)∧af (Kd.V (Kd.slice 2 (Kd.int .i64)) 29 w' w.heap.size (fun k_=>some k_ ≠ (cA:Value).ownBlock∧some k_ ≠ (gp:Value).ownBlock∧some k_ ≠ (fN:Value).ownBlock∧some k_ ≠ (zy:Value).ownBlock∧k_ ≠ eK∧k_ ≠ gK∧k_ ≠ iy∧k_ ≠ jF) (.slice gB t104.length gx) t104)∧af (Kd.V (Kd.slice 2 (Kd.int .i64)) 29 w' w.heap.size (fun k_=>some k_ ≠ (cA:Value).ownBlock∧some k_ ≠ (gp:Value).ownBlock∧some k_ ≠ (fN:Value).ownBlock∧some k_ ≠ (zy:Value).ownBlock∧k_ ≠ eK∧k_ ≠ gK∧k_ ≠ iy∧k_ ≠ jF) (.slice oY t122.length pq) t122)∧af (Kd.V (Kd.slice 2 (Kd.int .i64)) 29 w' w.heap.size (fun k_=>some k_ ≠ (cA:Value).ownBlock∧some k_ ≠ (gp:Value).ownBlock∧some k_ ≠ (fN:Value).ownBlock∧some k_ ≠ (zy:Value).ownBlock∧k_ ≠ eK∧k_ ≠ gK∧k_ ≠ iy∧k_ ≠ jF) (.slice qq t141.length qH) t141)∧af (Kd.V (Kd.slice 2 (Kd.int .i64)) 29 w' w.heap.size (fun k_=>some k_ ≠ (cA:Value).ownBlock∧some k_ ≠ (gp:Value).ownBlock∧some k_ ≠ (fN:Value).ownBlock∧some k_ ≠ (zy:Value).ownBlock∧k_ ≠ eK∧k_ ≠ gK∧k_ ≠ iy∧k_ ≠ jF) (.slice rS t157.length r7) t157)∧af (w'.heap[eK]?=some (sO t103 gB t104 gx 26))∧af (w'.heap[gK]?=some (sO t121 oY t122 pq 26))∧af (w'.heap[iy]?=some (sO t140 qq t141 qH 26))∧af (w'.heap[jF]?=some (sO t156 rS t157 r7 26))∧af (Below w.heap.size w w'))
               case atStart=>exact ⟨(1),rs,H',⟨Nat.le_refl _⟩,⟨aR (Kd.aH aI.z (fun _ hk=>⟨hk.1.2.1,⟨hk.1.2.2,hk.2⟩⟩))⟩,⟨aR (Kd.aH fW.z (fun _ hk=>⟨hk.1.1,⟨hk.1.2.2,hk.2⟩⟩))⟩,⟨aR (Kd.aH fK.z (fun _ hk=>⟨hk.1.1,⟨hk.1.2.2,hk.2⟩⟩))⟩,⟨aR (Kd.aH SN.z (fun _ hk=>⟨hk.1.1.1.2,⟨hk.1.2,hk.2⟩⟩))⟩,⟨aV (Kd.bf atg.z (fun _ hk=>⟨hk.1.1,⟨hk.1.2.2.1,⟨hk.1.2.2.2.1,⟨hk.2,⟨hk.1.2.2.2.2.1,⟨hk.1.2.2.2.2.2.1,⟨hk.1.2.2.2.2.2.2.1,hk.1.2.2.2.2.2.2.2⟩⟩⟩⟩⟩⟩⟩))⟩,⟨aV (Kd.bf eD.z (fun _ hk=>⟨hk.1.1,⟨hk.1.2.2.1,⟨hk.1.2.2.2.1,⟨hk.2,⟨hk.1.2.2.2.2.1,⟨hk.1.2.2.2.2.2.1,⟨hk.1.2.2.2.2.2.2.1,hk.1.2.2.2.2.2.2.2⟩⟩⟩⟩⟩⟩⟩))⟩,⟨aV (Kd.bf gf.z (fun _ hk=>⟨hk.1.1,⟨hk.1.2.2.1,⟨hk.1.2.2.2.1,⟨hk.2,⟨hk.1.2.2.2.2.1,⟨hk.1.2.2.2.2.2.1,⟨hk.1.2.2.2.2.2.2.1,hk.1.2.2.2.2.2.2.2⟩⟩⟩⟩⟩⟩⟩))⟩,⟨aV (Kd.bf kA.z (fun _ hk=>⟨hk.1.1,⟨hk.1.2.2.1,⟨hk.1.2.2.2.1,⟨hk.2,⟨hk.1.2.2.2.2.1,⟨hk.1.2.2.2.2.2.1,⟨hk.1.2.2.2.2.2.2.1,hk.1.2.2.2.2.2.2.2⟩⟩⟩⟩⟩⟩⟩))⟩,⟨bk⟩,⟨bk⟩,⟨bk⟩,⟨bk⟩,⟨bl⟩⟩
               case round=>as_aux_lemma =>
                clear H'
                obtain ⟨tU,rfl,HA,iu,aI,fW,fK,pZ,atg,eD,gf,kA,bN,eF,f_,jB,HB⟩:=hrel
                cases gk with
                | zero=>exact absurd HA.z (by simp [F4.l0])
                | succ k5 =>
                 have H:=HA.z
                 clear HA
                 simp only [F4.l0] at H
                 replace H:=iC H;obtain ⟨Oa,H⟩|⟨Oa,H⟩:=H
                 case inl =>
                  have H':=k0 H
                  clear H
                  go_wp2
                  go_meet
                  case rel=>exact ⟨_,(by first|exact H'|(rw [lF];exact H')),⟨by have:=pW.out;have:=q8.out;have:=sS.out;have:=vA.out;have:=iu.z;first|omega|exact Nat.le_refl _⟩,⟨aR (Kd.aH aI.z (fun _ hk=>hk.2.1))⟩,⟨aR (Kd.aH fK.z (fun _ hk=>hk.1))⟩,⟨aV (Kd.bf atg.z (fun _ hk=>⟨hk.1,⟨hk.2.2.1,⟨hk.2.2.2.2.1,⟨hk.2.2.2.2.2.1,⟨hk.2.2.2.2.2.2.1,hk.2.2.2.2.2.2.2⟩⟩⟩⟩⟩))⟩,⟨aV (Kd.bf eD.z (fun _ hk=>⟨hk.1,⟨hk.2.2.1,⟨hk.2.2.2.2.1,⟨hk.2.2.2.2.2.1,⟨hk.2.2.2.2.2.2.1,hk.2.2.2.2.2.2.2⟩⟩⟩⟩⟩))⟩,⟨aV (Kd.bf gf.z (fun _ hk=>⟨hk.1,⟨hk.2.2.1,⟨hk.2.2.2.2.1,⟨hk.2.2.2.2.2.1,⟨hk.2.2.2.2.2.2.1,hk.2.2.2.2.2.2.2⟩⟩⟩⟩⟩))⟩,⟨aV (Kd.bf kA.z (fun _ hk=>⟨hk.1,⟨hk.2.2.1,⟨hk.2.2.2.2.1,⟨hk.2.2.2.2.2.1,⟨hk.2.2.2.2.2.2.1,hk.2.2.2.2.2.2.2⟩⟩⟩⟩⟩))⟩,⟨bk⟩,⟨bk⟩,⟨bk⟩,⟨bk⟩,⟨bl⟩⟩
                 by_cases c85:t120=0
                 case neg =>
                  rw [if_neg c85] at H
                  have aeA:=beq_eq_false_iff_ne.mpr c85
                  have anU:=bne_iff_ne.mpr c85
                  replace H:=bS H;obtain ⟨t175,L2,H⟩:=H
                  have H':=k0 H
                  clear H
                  obtain ⟨vu,vX,rfl⟩:=Kd.b9 pZ.z
                  go_wp2_with (first|(go_at_call 44;(with_reducible refine (auD.calls _ _ t171 tU t175 _ ?av ?ax L2.z).mono ?_);(case av=>exact aC ((Kd.bD pZ.z).2.2));(case ax=>exact (Kd.bD pZ.z).2.1);rintro e w' ⟨rfl,⟨nd,rfl⟩⟩;(try exact dN)))
                  repeat (go_quiet (first|(go_at_call 44;(with_reducible refine (auD.calls _ _ t171 tU t175 _ ?av ?ax L2.z).mono ?_);(case av=>exact aC ((Kd.bD pZ.z).2.2));(case ax=>exact (Kd.bD pZ.z).2.1);rintro e w' ⟨rfl,⟨nd,rfl⟩⟩;(try exact dN)));try go_wp2_with (first|(go_at_call 44;(with_reducible refine (auD.calls _ _ t171 tU t175 _ ?av ?ax L2.z).mono ?_);(case av=>exact aC ((Kd.bD pZ.z).2.2));(case ax=>exact (Kd.bD pZ.z).2.1);rintro e w' ⟨rfl,⟨nd,rfl⟩⟩;(try exact dN))))
                  go_loopg [36,37] k5 (fun kq Rw v37 w'=>∃ (II:Int) (yy:Int),Rw=.int .i64 II∧v37=.int .i64 yy∧af (F4.l1 kq t111 t114 t120 t128 t130 t139 t144 t146 t149 t171 tU II yy t140 t141=some r)∧af (kq≤k5)∧af (Kd.R (Kd.int .i64) 2 w' w.heap.size (fun k_=>some k_ ≠ (gp:Value).ownBlock∧some k_ ≠ (fN:Value).ownBlock∧some k_ ≠ ((.slice vu t171.length vX):Value).ownBlock) cA t111)∧af (Kd.R (Kd.int .i64) 2 w' w.heap.size (fun k_=>some k_ ≠ (cA:Value).ownBlock∧some k_ ≠ (fN:Value).ownBlock∧some k_ ≠ ((.slice vu t171.length vX):Value).ownBlock) gp t130)∧af (Kd.R (Kd.int .i64) 2 w' w.heap.size (fun k_=>some k_ ≠ (cA:Value).ownBlock∧some k_ ≠ (gp:Value).ownBlock∧some k_ ≠ ((.slice vu t171.length vX):Value).ownBlock) fN t146)∧af (Kd.R (Kd.int .i64) 2 w' w.heap.size (fun k_=>some k_ ≠ (cA:Value).ownBlock∧some k_ ≠ (gp:Value).ownBlock∧some k_ ≠ (fN:Value).ownBlock) (.slice vu t171.length vX) t171)∧af (Kd.V (Kd.slice 2 (Kd.int .i64)) 29 w' w.heap.size (fun k_=>some k_ ≠ (cA:Value).ownBlock∧some k_ ≠ (gp:Value).ownBlock∧some k_ ≠ (fN:Value).ownBlock∧some k_ ≠ ((.slice vu t171.length vX):Value).ownBlock∧k_ ≠ eK∧k_ ≠ gK∧k_ ≠ iy∧k_ ≠ jF) (.slice gB t104.length gx) t104)∧af (Kd.V (Kd.slice 2 (Kd.int .i64)) 29 w' w.heap.size (fun k_=>some k_ ≠ (cA:Value).ownBlock∧some k_ ≠ (gp:Value).ownBlock∧some k_ ≠ (fN:Value).ownBlock∧some k_ ≠ ((.slice vu t171.length vX):Value).ownBlock∧k_ ≠ eK∧k_ ≠ gK∧k_ ≠ iy∧k_ ≠ jF) (.slice oY t122.length pq) t122)∧af (Kd.V (Kd.slice 2 (Kd.int .i64)) 29 w' w.heap.size (fun k_=>some k_ ≠ (cA:Value).ownBlock∧some k_ ≠ (gp:Value).ownBlock∧some k_ ≠ (fN:Value).ownBlock∧some k_ ≠ ((.slice vu t171.length vX):Value).ownBlock∧k_ ≠ eK∧k_ ≠ gK∧k_ ≠ iy∧k_ ≠ jF) (.slice qq t141.length qH) t141)∧af (Kd.V (Kd.slice 2 (Kd.int .i64)) 29 w' w.heap.size (fun k_=>some k_ ≠ (cA:Value).ownBlock∧some k_ ≠ (gp:Value).ownBlock∧some k_ ≠ (fN:Value).ownBlock∧some k_ ≠ ((.slice vu t171.length vX):Value).ownBlock∧k_ ≠ eK∧k_ ≠ gK∧k_ ≠ iy∧k_ ≠ jF) (.slice rS t157.length r7) t157)∧af (w'.heap[eK]?=some (sO t103 gB t104 gx 26))∧af (w'.heap[gK]?=some (sO t121 oY t122 pq 26))∧af (w'.heap[iy]?=some (sO t140 qq t141 qH 26))∧af (w'.heap[jF]?=some (sO t156 rS t157 r7 26))∧af (Below w.heap.size w w'))
                  case atStart=>exact ⟨(Int.tmod (wrap64 ((Int.tmod tU t120) * t175)) t120),(1),rs,rs,H',⟨Nat.le_refl _⟩,⟨aR (aI.z)⟩,⟨aR (fW.z)⟩,⟨aR (fK.z)⟩,⟨aR (pZ.z)⟩,⟨aV (atg.z)⟩,⟨aV (eD.z)⟩,⟨aV (gf.z)⟩,⟨aV (kA.z)⟩,⟨bk⟩,⟨bk⟩,⟨bk⟩,⟨bk⟩,⟨bl⟩⟩
                  case round=>as_aux_lemma =>
                   clear H'
                   obtain ⟨II,yy,rfl,rfl,HA,qv,aI,fW,fK,pZ,atg,eD,gf,kA,bN,eF,f_,jB,HB⟩:=hrel
                   cases gk with
                   | zero=>exact absurd HA.z (by simp [F4.l1])
                   | succ k6 =>
                    have H:=HA.z
                    clear HA
                    simp only [F4.l1] at H
                    replace H:=iC H;obtain ⟨aeC,H⟩|⟨aeC,H⟩:=H
                    case inl =>
                     replace H:=iE H;obtain ⟨c95,aeF,aeG,H⟩|⟨aeF,aeG,H⟩:=H
                     case inl =>
                      obtain rfl:=Option.some.inj H
                      go_wp2
                      go_ret
                      exact ⟨eR,bl⟩
                     have H':=k0 H
                     clear H
                     go_wp2
                     first|go_roundg k6|(simp only [← lF];go_roundg k6)
                     case measure=>have:=pW.out;have:=q8.out;have:=sS.out;have:=vA.out;have:=iu.z;have:=qv.z;omega
                     case rel=>exact ⟨(wrap64 (tU+1)),rs,(by first|exact H'|(rw [lF];exact H')),⟨by have:=pW.out;have:=q8.out;have:=sS.out;have:=vA.out;have:=iu.z;have:=qv.z;omega⟩,⟨aR (aI.z)⟩,⟨aR (fW.z)⟩,⟨aR (fK.z)⟩,⟨aR (pZ.z)⟩,⟨aV (atg.z)⟩,⟨aV (eD.z)⟩,⟨aV (gf.z)⟩,⟨aV (kA.z)⟩,⟨bk⟩,⟨bk⟩,⟨bk⟩,⟨bk⟩,⟨bl⟩⟩
                    replace H:=bS H;obtain ⟨t176,I4,H⟩:=H
                    obtain ⟨AZ,lF⟩:∃ j_:Int,(wrap64 (yy - 1))=j_:=⟨_,rfl⟩
                    replace H:(if 0≤(AZ) then (if (AZ) < (t130.length:Int) then (if t120=0 then (none) else (F4.l1 k6 t111 t114 t120 t128 t130 t139 t144 t146 t149 t171 tU (Int.tmod (wrap64 (II+(wrap64 (t176 * (rd t130 (AZ)))))) t120) (wrap64 (yy+1)) t140 t141)) else (none)) else (none))=some r:=by first|(rw [lF] at H;exact H)|(simp only [lF] at H ⊢;exact H)
                    (try rw [lF] at I4)
                    have aql:(IntKind.i64.wrap (yy - 1))=AZ:=(bp _).trans lF
                    replace H:=iS H;obtain ⟨c91,H⟩:=H
                    have anX:=decide_eq_true c91
                    clear c91
                    replace H:=iS H;obtain ⟨c92,H⟩:=H
                    have anY:=decide_eq_true c92
                    clear c92
                    by_cases c93:t120=0
                    case neg =>
                     rw [if_neg c93] at H
                     have anZ:=beq_eq_false_iff_ne.mpr c93
                     have an0:=bne_iff_ne.mpr c93
                     have H':=k0 H
                     clear H
                     obtain ⟨I6,JZ,rfl⟩:=Kd.b9 fW.z
                     have Qo:0≤((AZ):Int):=oD
                     have QM:(AZ) < (t130.length:Int):=oD
                     obtain ⟨ano,e177,arE⟩:=Kd.bK (Kd.bD fW.z).2.2 (AZ) Qo QM
                     cases e177
                     replace Qo:=eT Qo
                     replace QM:=eT QM
                     go_wp2_with (first|(go_at_call 44;(with_reducible refine (auD.calls _ _ t171 (wrap64 (tU - yy)) t176 _ ?av ?ax I4.z).mono ?_);(case av=>exact aC ((Kd.bD pZ.z).2.2));(case ax=>exact (Kd.bD pZ.z).2.1);rintro e w' ⟨rfl,⟨nd,rfl⟩⟩;(try exact dN)))
                     repeat (go_quiet (first|(go_at_call 44;(with_reducible refine (auD.calls _ _ t171 (wrap64 (tU - yy)) t176 _ ?av ?ax I4.z).mono ?_);(case av=>exact aC ((Kd.bD pZ.z).2.2));(case ax=>exact (Kd.bD pZ.z).2.1);rintro e w' ⟨rfl,⟨nd,rfl⟩⟩;(try exact dN)));try go_wp2_with (first|(go_at_call 44;(with_reducible refine (auD.calls _ _ t171 (wrap64 (tU - yy)) t176 _ ?av ?ax I4.z).mono ?_);(case av=>exact aC ((Kd.bD pZ.z).2.2));(case ax=>exact (Kd.bD pZ.z).2.1);rintro e w' ⟨rfl,⟨nd,rfl⟩⟩;(try exact dN))))
                     first|go_roundg k6|(simp only [← lF];go_roundg k6)
                     case measure=>have:=pW.out;have:=q8.out;have:=sS.out;have:=vA.out;have:=iu.z;have:=qv.z;omega
                     case rel=>exact ⟨(Int.tmod (wrap64 (II+(wrap64 (t176 * (rd t130 (AZ)))))) t120),(wrap64 (yy+1)),(by first|rfl|(simp;done)|(simp only [← lF]<;>(first|rfl|simp))|(simp [*];done)),rs,(by first|exact H'|(rw [lF];exact H')),⟨by have:=pW.out;have:=q8.out;have:=sS.out;have:=vA.out;have:=iu.z;have:=qv.z;omega⟩,⟨aR (aI.z)⟩,⟨aR (fW.z)⟩,⟨aR (fK.z)⟩,⟨aR (pZ.z)⟩,⟨aV (atg.z)⟩,⟨aV (eD.z)⟩,⟨aV (gf.z)⟩,⟨aV (kA.z)⟩,⟨bk⟩,⟨bk⟩,⟨bk⟩,⟨bk⟩,⟨bl⟩⟩
                    rw [if_pos c93] at H
                    exact absurd H (by simp)
                 rw [if_pos c85] at H
                 exact absurd H (by simp)
              case rest=>as_aux_lemma =>
               clear Mq
               obtain ⟨kq,HA,FD,aI,fK,atg,eD,gf,kA,bN,eF,f_,jB,HB⟩:=hcut
               cases kq with
               | zero=>exact absurd HA.z (by simp [F4.j6])
               | succ aib =>
                have H:=HA.z
                clear HA
                simp only [F4.j6] at H
                have Me:=k0 H
                clear H
                go_upto_region 37 with (fail)
                go_cut [217] (fun akX wc=>∃ (kq:Nat) (LG:Bool),akX=.bool LG∧af (F4.j7 kq t111 t114 t139 t146 LG t140 t141=some r)∧af (kq≤aib)∧af (Kd.R (Kd.int .i64) 2 wc w.heap.size (fun k_=>some k_ ≠ (fN:Value).ownBlock) cA t111)∧af (Kd.R (Kd.int .i64) 2 wc w.heap.size (fun k_=>some k_ ≠ (cA:Value).ownBlock) fN t146)∧af (Kd.V (Kd.slice 2 (Kd.int .i64)) 29 wc w.heap.size (fun k_=>some k_ ≠ (cA:Value).ownBlock∧some k_ ≠ (fN:Value).ownBlock∧k_ ≠ eK∧k_ ≠ gK∧k_ ≠ iy∧k_ ≠ jF) (.slice gB t104.length gx) t104)∧af (Kd.V (Kd.slice 2 (Kd.int .i64)) 29 wc w.heap.size (fun k_=>some k_ ≠ (cA:Value).ownBlock∧some k_ ≠ (fN:Value).ownBlock∧k_ ≠ eK∧k_ ≠ gK∧k_ ≠ iy∧k_ ≠ jF) (.slice oY t122.length pq) t122)∧af (Kd.V (Kd.slice 2 (Kd.int .i64)) 29 wc w.heap.size (fun k_=>some k_ ≠ (cA:Value).ownBlock∧some k_ ≠ (fN:Value).ownBlock∧k_ ≠ eK∧k_ ≠ gK∧k_ ≠ iy∧k_ ≠ jF) (.slice qq t141.length qH) t141)∧af (Kd.V (Kd.slice 2 (Kd.int .i64)) 29 wc w.heap.size (fun k_=>some k_ ≠ (cA:Value).ownBlock∧some k_ ≠ (fN:Value).ownBlock∧k_ ≠ eK∧k_ ≠ gK∧k_ ≠ iy∧k_ ≠ jF) (.slice rS t157.length r7) t157)∧af (wc.heap[eK]?=some (sO t103 gB t104 gx 26))∧af (wc.heap[gK]?=some (sO t121 oY t122 pq 26))∧af (wc.heap[iy]?=some (sO t140 qq t141 qH 26))∧af (wc.heap[jF]?=some (sO t156 rS t157 r7 26))∧af (Below w.heap.size w wc))
                case first =>
                 have H:=Me.z
                 clear Me
                 replace H:=iE H;obtain ⟨c102,F_,adG,H⟩|⟨F_,adG,H⟩:=H
                 case inl =>
                  (first|rw [F_]|(simp only [bp,bH];rw [F_])|skip)
                  have H':=k0 H
                  clear H
                  go_wp2
                  go_meet
                  case rel=>exact ⟨_,(false),rs,(by first|exact H'|(rw [lF];exact H')),⟨by have:=pW.out;have:=q8.out;have:=sS.out;have:=vA.out;have:=FD.out;first|omega|exact Nat.le_refl _⟩,⟨aR (aI.z)⟩,⟨aR (fK.z)⟩,⟨aV (atg.z)⟩,⟨aV (eD.z)⟩,⟨aV (gf.z)⟩,⟨aV (kA.z)⟩,⟨bk⟩,⟨bk⟩,⟨bk⟩,⟨bk⟩,⟨bl⟩⟩
                 (first|rw [F_]|(simp only [bp,bH];rw [F_])|skip)
                 have H':=k0 H
                 clear H
                 go_wp2
                 go_meet
                 case rel=>exact ⟨_,((t144 == 1)),rs,(by first|exact H'|(rw [lF];exact H')),⟨by have:=pW.out;have:=q8.out;have:=sS.out;have:=vA.out;have:=FD.out;first|omega|exact Nat.le_refl _⟩,⟨aR (aI.z)⟩,⟨aR (fK.z)⟩,⟨aV (atg.z)⟩,⟨aV (eD.z)⟩,⟨aV (gf.z)⟩,⟨aV (kA.z)⟩,⟨bk⟩,⟨bk⟩,⟨bk⟩,⟨bk⟩,⟨bl⟩⟩
                case rest=>as_aux_lemma =>
                 clear Me
                 obtain ⟨kq,LG,rfl,HA,Ms,aI,fK,atg,eD,gf,kA,bN,eF,f_,jB,HB⟩:=hcut
                 cases kq with
                 | zero=>exact absurd HA.z (by simp [F4.j7])
                 | succ HU =>
                  have H:=HA.z
                  clear HA
                  simp only [F4.j7] at H
                  cases LG
                  case false =>
                   replace H:=iF H
                   replace H:=iE H;obtain ⟨c130,adT,adU,H⟩|⟨adT,adU,H⟩:=H
                   case inl =>
                    obtain rfl:=Option.some.inj H
                    obtain ⟨al7,aoN,rfl⟩:=Kd.b9 aI.z
                    go_wp2
                    go_ret
                    exact ⟨eR,bl⟩
                   by_cases c131:(t111.length:Int) > 0
                   case neg =>
                    rw [if_neg c131] at H
                    have adW:=decide_eq_false c131
                    have adX:decide (0 < t111.length)=false:=decide_eq_false (by omega)
                    clear c131
                    obtain rfl:=Option.some.inj H
                    obtain ⟨al6,aoM,rfl⟩:=Kd.b9 aI.z
                    go_wp2
                    go_ret
                    exact ⟨eR,bl⟩
                   rw [if_pos c131] at H
                   have adW:=decide_eq_true c131
                   have adX:decide (0 < t111.length)=true:=decide_eq_true (by omega)
                   clear c131
                   replace H:=iS H;obtain ⟨c132,H⟩:=H
                   have anw:=decide_eq_true c132
                   have anx:decide (0 < t111.length)=true:=decide_eq_true (by omega)
                   clear c132
                   obtain rfl:=Option.some.inj H
                   obtain ⟨al5,aoL,rfl⟩:=Kd.b9 aI.z
                   have Qs:0≤(0:Int):=(by omega)
                   have QT:0 < (t111.length:Int):=oD
                   obtain ⟨anq,e191,X7⟩:=Kd.bK (Kd.bD aI.z).2.2 0 Qs QT
                   cases e191
                   have ar3:(0 < t111.length)=True:=eq_true (by omega)
                   (try rw [show ((0:Int)).toNat=0 from rfl] at X7)
                   (try rw [Addr.add_zero'] at X7)
                   replace Qs:=eT Qs
                   replace QT:=eT QT
                   go_wp2
                   go_ret
                   exact ⟨eR,bl⟩
                  replace H:=iT H
                  replace H:=bS H;obtain ⟨⟨t178,t181⟩,aab,H⟩:=H
                  dsimp only at H
                  replace H:=bS H;obtain ⟨⟨t182,t185⟩,aac,H⟩:=H
                  dsimp only at H
                  have DC:=k0 H
                  clear H
                  obtain ⟨_,_⟩:=nE Tj
                  obtain ⟨_,_⟩:=nE Tk
                  obtain ⟨_,_⟩:=nE Nq
                  obtain ⟨_,_,_,_⟩:=as9 f_
                  obtain ⟨alY,aoE,rfl⟩:=Kd.b9 fK.z
                  go_upto_region 40 with (first|(go_at_call 33;(with_reducible refine (uf.calls HU t139 t140 _ _ t141 _ _ t146 t178 t181 _ ?av ?ax ?bM ?bT aab.z).mono ?_);(case av=>exact aC ((Kd.gT gf.z).2.2));(case ax=>exact (Kd.gT gf.z).2.1);(case bM=>exact aC ((Kd.bD fK.z).2.2));(case bT=>exact (Kd.bD fK.z).2.1);rintro e asV ⟨asj,rfl,as2,hb⟩;replace atg:=fl atg (Kd.bh as2) hb;replace eD:=fl eD (Kd.bh as2) hb;replace gf:=fl gf (Kd.bh as2) hb;replace kA:=fl kA (Kd.bh as2) hb;have yI:=k0 (Kd.cg (Kd.cU (Kd.cU as2 (Kd.bV (aR aI.z))) (Kd.bV (aR fK.z))) (as8 bl));replace aI:=eO aI (Kd.bh as2) hb;replace fK:=eO fK (Kd.bh as2) hb;replace bN:=kB bN hb;replace eF:=kB eF hb;replace f_:=kB f_ hb;replace jB:=kB jB hb;replace HB:=bW hb;obtain ⟨ao4,ao5,apK,apL⟩:=as9 f_)|(go_at_call 45;(with_reducible refine (BH.calls HU t140 _ _ t141 t182 t185 _ ?av ?ax aac.z).mono ?_);(case av=>exact aC ((Kd.gT gf.z).2.2));(case ax=>exact (Kd.gT gf.z).2.1);rintro e asW ⟨asl,rfl,as2,hb⟩;replace atg:=fl atg (Kd.bh as2) hb;replace eD:=fl eD (Kd.bh as2) hb;replace gf:=fl gf (Kd.bh as2) hb;replace kA:=fl kA (Kd.bh as2) hb;have DR:=k0 (Kd.cg (Kd.cU (Kd.cU (Kd.cU as2 (Kd.bV (aR aI.z))) (Kd.bV (aR fK.z))) (Kd.bV (aR yI.z))) (as8 bl));replace aI:=eO aI (Kd.bh as2) hb;replace fK:=eO fK (Kd.bh as2) hb;replace yI:=eO yI (Kd.bh as2) hb;replace bN:=kB bN hb;replace eF:=kB eF hb;replace f_:=kB f_ hb;replace jB:=kB jB hb;replace HB:=bW hb))
                  (try simp only [Act.put,zI,zZ,zS])
                  go_cut [243] (fun akY wc=>∃ (kq:Nat) (LH:Bool),akY=.bool LH∧af (F4.j8 kq t111 t114 LH=some r)∧af (kq≤HU)∧af (Kd.R (Kd.int .i64) 2 wc w.heap.size (fun _=>True) cA t111)∧af (Kd.V (Kd.slice 2 (Kd.int .i64)) 29 wc w.heap.size (fun k_=>some k_ ≠ (cA:Value).ownBlock∧k_ ≠ eK∧k_ ≠ gK∧k_ ≠ iy∧k_ ≠ jF) (.slice gB t104.length gx) t104)∧af (Kd.V (Kd.slice 2 (Kd.int .i64)) 29 wc w.heap.size (fun k_=>some k_ ≠ (cA:Value).ownBlock∧k_ ≠ eK∧k_ ≠ gK∧k_ ≠ iy∧k_ ≠ jF) (.slice oY t122.length pq) t122)∧af (Kd.V (Kd.slice 2 (Kd.int .i64)) 29 wc w.heap.size (fun k_=>some k_ ≠ (cA:Value).ownBlock∧k_ ≠ eK∧k_ ≠ gK∧k_ ≠ iy∧k_ ≠ jF) (.slice qq t141.length qH) t141)∧af (Kd.V (Kd.slice 2 (Kd.int .i64)) 29 wc w.heap.size (fun k_=>some k_ ≠ (cA:Value).ownBlock∧k_ ≠ eK∧k_ ≠ gK∧k_ ≠ iy∧k_ ≠ jF) (.slice rS t157.length r7) t157)∧af (wc.heap[eK]?=some (sO t103 gB t104 gx 26))∧af (wc.heap[gK]?=some (sO t121 oY t122 pq 26))∧af (wc.heap[iy]?=some (sO t140 qq t141 qH 26))∧af (wc.heap[jF]?=some (sO t156 rS t157 r7 26))∧af (Below w.heap.size w wc))
                  case first =>
                   have H:=DC.z
                   clear DC
                   replace H:=iE H;obtain ⟨c115,Gc,adK,H⟩|⟨Gc,adK,H⟩:=H
                   case inl =>
                    (first|rw [Gc]|(simp only [bp,bH];rw [Gc])|skip)
                    have H':=k0 H
                    clear H
                    go_wp2
                    go_meet
                    case rel=>exact ⟨_,(true),rs,(by first|exact H'|(rw [lF];exact H')),⟨by have:=pW.out;have:=q8.out;have:=sS.out;have:=vA.out;have:=FD.out;have:=Ms.out;first|omega|exact Nat.le_refl _⟩,⟨aR (Kd.aH aI.z (fun _ hk=>trivial))⟩,⟨aV (Kd.bf atg.z (fun _ hk=>⟨hk.1.1.1,⟨hk.1.1.2.2.1,⟨hk.1.1.2.2.2.1,⟨hk.1.1.2.2.2.2.1,hk.1.1.2.2.2.2.2⟩⟩⟩⟩))⟩,⟨aV (Kd.bf eD.z (fun _ hk=>⟨hk.1.1.1,⟨hk.1.1.2.2.1,⟨hk.1.1.2.2.2.1,⟨hk.1.1.2.2.2.2.1,hk.1.1.2.2.2.2.2⟩⟩⟩⟩))⟩,⟨aV (Kd.bf gf.z (fun _ hk=>⟨hk.1.1.1,⟨hk.1.1.2.2.1,⟨hk.1.1.2.2.2.1,⟨hk.1.1.2.2.2.2.1,hk.1.1.2.2.2.2.2⟩⟩⟩⟩))⟩,⟨aV (Kd.bf kA.z (fun _ hk=>⟨hk.1.1.1,⟨hk.1.1.2.2.1,⟨hk.1.1.2.2.2.1,⟨hk.1.1.2.2.2.2.1,hk.1.1.2.2.2.2.2⟩⟩⟩⟩))⟩,⟨bk⟩,⟨bk⟩,⟨bk⟩,⟨bk⟩,⟨bl⟩⟩
                   (first|rw [Gc]|(simp only [bp,bH];rw [Gc])|skip)
                   replace H:=iE H;obtain ⟨c116,adL,adM,H⟩|⟨adL,adM,H⟩:=H
                   case inl =>
                    have H':=k0 H
                    clear H
                    go_wp2
                    go_meet
                    case rel=>exact ⟨_,(true),rs,(by first|exact H'|(rw [lF];exact H')),⟨by have:=pW.out;have:=q8.out;have:=sS.out;have:=vA.out;have:=FD.out;have:=Ms.out;first|omega|exact Nat.le_refl _⟩,⟨aR (Kd.aH aI.z (fun _ hk=>trivial))⟩,⟨aV (Kd.bf atg.z (fun _ hk=>⟨hk.1.1.1,⟨hk.1.1.2.2.1,⟨hk.1.1.2.2.2.1,⟨hk.1.1.2.2.2.2.1,hk.1.1.2.2.2.2.2⟩⟩⟩⟩))⟩,⟨aV (Kd.bf eD.z (fun _ hk=>⟨hk.1.1.1,⟨hk.1.1.2.2.1,⟨hk.1.1.2.2.2.1,⟨hk.1.1.2.2.2.2.1,hk.1.1.2.2.2.2.2⟩⟩⟩⟩))⟩,⟨aV (Kd.bf gf.z (fun _ hk=>⟨hk.1.1.1,⟨hk.1.1.2.2.1,⟨hk.1.1.2.2.2.1,⟨hk.1.1.2.2.2.2.1,hk.1.1.2.2.2.2.2⟩⟩⟩⟩))⟩,⟨aV (Kd.bf kA.z (fun _ hk=>⟨hk.1.1.1,⟨hk.1.1.2.2.1,⟨hk.1.1.2.2.2.1,⟨hk.1.1.2.2.2.2.1,hk.1.1.2.2.2.2.2⟩⟩⟩⟩))⟩,⟨bk⟩,⟨bk⟩,⟨bk⟩,⟨bk⟩,⟨bl⟩⟩
                   replace H:=bS H;obtain ⟨t186,aae,H⟩:=H
                   replace H:=bS H;obtain ⟨t189,aaf,H⟩:=H
                   have H':=k0 H
                   clear H
                   obtain ⟨alZ,aoF,rfl⟩:=Kd.b9 DR.z
                   go_wp2_with (first|(go_at_call 46;(with_reducible refine (jQ.calls HU t139 _ _ t182 t186 _ ?av ?ax aae.z).mono ?_);(case av=>exact aC ((Kd.bD DR.z).2.2));(case ax=>exact (Kd.bD DR.z).2.1);rintro e asX ⟨asm,rfl,as2,hb⟩;replace atg:=fl atg (Kd.bh as2) hb;replace eD:=fl eD (Kd.bh as2) hb;replace gf:=fl gf (Kd.bh as2) hb;replace kA:=fl kA (Kd.bh as2) hb;have Mz:=k0 (Kd.cg (Kd.cU (Kd.cU (Kd.cU (Kd.cU as2 (Kd.bV (aR aI.z))) (Kd.bV (aR fK.z))) (Kd.bV (aR yI.z))) (Kd.bV (aR DR.z))) (as8 bl));replace aI:=eO aI (Kd.bh as2) hb;replace fK:=eO fK (Kd.bh as2) hb;replace yI:=eO yI (Kd.bh as2) hb;replace DR:=eO DR (Kd.bh as2) hb;replace bN:=kB bN hb;replace eF:=kB eF hb;replace f_:=kB f_ hb;replace jB:=kB jB hb;replace HB:=bW hb;obtain ⟨al0,aoG,rfl⟩:=Kd.b9 yI.z;obtain ⟨al1,aoH,rfl⟩:=Kd.b9 Mz.z)|(go_at_call 9;(with_reducible refine (F9.calls HU _ _ t178 _ _ t186 t189 _ ?av ?ax ?bM ?bT aaf.z).mono ?_);(case av=>exact aC ((Kd.bD yI.z).2.2));(case ax=>exact (Kd.bD yI.z).2.1);(case bM=>exact aC ((Kd.bD Mz.z).2.2));(case bT=>exact (Kd.bD Mz.z).2.1);rintro e w' ⟨rfl,⟨nd,rfl⟩⟩;(try exact dN)))
                   go_meet
                   case rel=>exact ⟨_,(!t189),rs,(by first|exact H'|(rw [lF];exact H')),⟨by have:=pW.out;have:=q8.out;have:=sS.out;have:=vA.out;have:=FD.out;have:=Ms.out;first|omega|exact Nat.le_refl _⟩,⟨aR (Kd.aH aI.z (fun _ hk=>trivial))⟩,⟨aV (Kd.bf atg.z (fun _ hk=>⟨hk.1.1.1.1,⟨hk.1.1.1.2.2.1,⟨hk.1.1.1.2.2.2.1,⟨hk.1.1.1.2.2.2.2.1,hk.1.1.1.2.2.2.2.2⟩⟩⟩⟩))⟩,⟨aV (Kd.bf eD.z (fun _ hk=>⟨hk.1.1.1.1,⟨hk.1.1.1.2.2.1,⟨hk.1.1.1.2.2.2.1,⟨hk.1.1.1.2.2.2.2.1,hk.1.1.1.2.2.2.2.2⟩⟩⟩⟩))⟩,⟨aV (Kd.bf gf.z (fun _ hk=>⟨hk.1.1.1.1,⟨hk.1.1.1.2.2.1,⟨hk.1.1.1.2.2.2.1,⟨hk.1.1.1.2.2.2.2.1,hk.1.1.1.2.2.2.2.2⟩⟩⟩⟩))⟩,⟨aV (Kd.bf kA.z (fun _ hk=>⟨hk.1.1.1.1,⟨hk.1.1.1.2.2.1,⟨hk.1.1.1.2.2.2.1,⟨hk.1.1.1.2.2.2.2.1,hk.1.1.1.2.2.2.2.2⟩⟩⟩⟩))⟩,⟨bk⟩,⟨bk⟩,⟨bk⟩,⟨bk⟩,⟨bl⟩⟩
                  case rest=>as_aux_lemma =>
                   clear DC
                   obtain ⟨kq,LH,rfl,HA,amZ,aI,atg,eD,gf,kA,bN,eF,f_,jB,HB⟩:=hcut
                   cases kq with
                   | zero=>exact absurd HA.z (by simp [F4.j8])
                   | succ arN =>
                    have H:=HA.z
                    clear HA
                    simp only [F4.j8] at H
                    cases LH
                    case false =>
                     replace H:=iF H
                     replace H:=iE H;obtain ⟨c124,adO,adP,H⟩|⟨adO,adP,H⟩:=H
                     case inl =>
                      obtain rfl:=Option.some.inj H
                      obtain ⟨al4,aoK,rfl⟩:=Kd.b9 aI.z
                      go_wp2
                      go_ret
                      exact ⟨eR,bl⟩
                     by_cases c125:(t111.length:Int) > 0
                     case neg =>
                      rw [if_neg c125] at H
                      have adQ:=decide_eq_false c125
                      have adR:decide (0 < t111.length)=false:=decide_eq_false (by omega)
                      clear c125
                      obtain rfl:=Option.some.inj H
                      obtain ⟨al3,aoJ,rfl⟩:=Kd.b9 aI.z
                      go_wp2
                      go_ret
                      exact ⟨eR,bl⟩
                     rw [if_pos c125] at H
                     have adQ:=decide_eq_true c125
                     have adR:decide (0 < t111.length)=true:=decide_eq_true (by omega)
                     clear c125
                     replace H:=iS H;obtain ⟨c126,H⟩:=H
                     have anu:=decide_eq_true c126
                     have anv:decide (0 < t111.length)=true:=decide_eq_true (by omega)
                     clear c126
                     obtain rfl:=Option.some.inj H
                     obtain ⟨al2,aoI,rfl⟩:=Kd.b9 aI.z
                     have Qr:0≤(0:Int):=(by omega)
                     have QS:0 < (t111.length:Int):=oD
                     obtain ⟨anp,e190,X6⟩:=Kd.bK (Kd.bD aI.z).2.2 0 Qr QS
                     cases e190
                     have ar2:(0 < t111.length)=True:=eq_true (by omega)
                     (try rw [show ((0:Int)).toNat=0 from rfl] at X6)
                     (try rw [Addr.add_zero'] at X6)
                     replace Qr:=eT Qr
                     replace QS:=eT QS
                     go_wp2
                     go_ret
                     exact ⟨eR,bl⟩
                    replace H:=iT H
                    obtain rfl:=Option.some.inj H
                    go_wp2
                    go_ret
                    exact ⟨eR,bl⟩
             replace H:=iT H
             obtain rfl:=Option.some.inj H
             go_wp2
             go_ret
             exact ⟨eR,bl⟩
          replace H:=iT H
          obtain rfl:=Option.some.inj H
          go_wp2
          go_ret
          exact ⟨eR,bl⟩
       replace H:=iT H
       obtain rfl:=Option.some.inj H
       go_wp2
       go_ret
       exact ⟨eR,bl⟩
    replace H:=iT H
    obtain rfl:=Option.some.inj H
    go_wp2
    go_ret
    exact ⟨eR,bl⟩
 replace H:=iT H
 obtain rfl:=Option.some.inj H
 go_enter Try.func4,Try.ntmps4
 go_wp2_with (first|(go_at_call 5;(with_reducible refine (F5.calls _ _ l0 true _ ?av ?ax A2.z).mono ?_);(case av=>exact aC dh.z);(case ax=>exact gG.z);rintro e w' ⟨rfl,⟨nd,rfl⟩⟩;(try exact dN)))
 go_ret
 exact ⟨eR,bl⟩
/-- THE ONE PURE STATEMENT of F4: yours. -/
def F4.Pure:Prop:=∀ (l0:List Int),l0.length≤maxLen→l0.length * 1≤140737488351232→(∀ x ∈ l0,(Lit.int .u8 x).wf=true)→∃ k,F4.f k l0=some true
theorem F4.walk (P : F4.Pure) (a0 : Option Addr) (avh Ar : Nat) (z0 : List Int) (w : World) (w0 : (a0 = none ∧ avh = 0 ∧ Ar = 0 ∧ z0 = []) ∨ ∃ x, a0 = some x ∧ avh ≤ Ar ∧ Ar ≤ maxLen ∧ z0.length = Ar ∧ (∀ i, i < z0.length → w.cell? (x.add i) = some (.int .u8 (z0.getD i 0))) ∧ ∀ n ∈ z0, (Lit.int .u8 n).wf = true) (y0 : avh * 1 ≤ 140737488351232) :
  Calls Try.prog 4 #[.slice a0 avh Ar] w fun e w'=>e=.returned (.bool true)∧Below w.heap.size w w':=by
 obtain ⟨l0,rfl,bX,hm0,hw0,hc0⟩:=nB.ajq w0
 obtain ⟨k,h⟩:=P l0 hm0 y0 hw0
 refine (F4.calls k _ _ l0 true w (Kd.L_ (d:=(0:Int)) (h1:=fun _=>rfl) bX) hc0 h).mono ?_
 rintro e w' ⟨rfl,hd⟩
 exact ⟨rfl,hd⟩
end Go.Proofs.Ytapnggjaeehpdaa.B
/- Set with little white space, by a program. -/
