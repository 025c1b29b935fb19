/- Go's calls come to what the Lean functions say. Condition of each: that the Lean function answers. -/
import Derived.Test.YtapnggjaeehpdaaBx0
import Derived.Test.YtapnggjaeehpdaaBx1
import Derived.Test.YtapnggjaeehpdaaBx7
namespace Go.Proofs.Ytapnggjaeehpdaa.B
open Go.RowKit Go.Proofs.bz.dI Go.Proofs.bz.iY Go.Proofs.bz.jn
attribute [local go_sem] max2_int min2_int max_two min_two max_three min_three max_four min_four
set_option linter.unusedVariables false
set_option linter.unusedSimpArgs false
set_option maxHeartbeats 8000000
set_option maxRecDepth 100000
/-! ### F32: function 32 -/
def Dz.f (k:Nat) (l0:List Int):Option (Int × Int × (List (List Int)) × List Int):=(je.f k l0).bind fun eN=>((iJ.f k eN.1 eN.2.1 eN.2.2).bind fun gi=>(some (gi.1,gi.2.1,gi.2.2.1,gi.2.2.2.1)))
theorem Dz.calls (k : Nat) (A0 : Option Addr) (c0 : Nat) (l0 : List Int) (r1 : Int) (r2 : Int) (r3 : List (List Int)) (r4 : List Int) (w : World) (bX : Kd.C (Kd.int .u8) w A0 l0.length l0) (hc0 : l0.length ≤ c0) (h : Dz.f k l0 = some (r1, r2, r3, r4)) :
  Calls Try.prog 32 #[.slice A0 l0.length c0] w fun e w'=>∃ ql qW:Value,e=.returned (.tuple #[.int .i64 r1,.agg #[.int .i64 r2,ql],qW])∧Kd.V (Kd.slice 2 (Kd.int .i64)) 29 w' w.heap.size (fun k_=>(w.heap.size≤k_)∧some k_ ≠ (qW:Value).ownBlock) ql r3∧Kd.R (Kd.int .i64) 2 w' w.heap.size (fun k_=>(w.heap.size≤k_)) qW r4∧Below w.heap.size w w':=by
 have gV:=Try.underlying26
 have dh:=k0 bX
 have gG:=k0 hc0
 clear bX hc0
 have HB:=k0 (Below.refl w.heap.size w)
 unfold Dz.f at h
 have H:=h
 clear h
 replace H:=bS H;obtain ⟨⟨t102,t103,t104⟩,A2,H⟩:=H
 dsimp only at H
 replace H:=bS H;obtain ⟨⟨t106,t107,t108,t111,t114,t115⟩,A3,H⟩:=H
 dsimp only at H
 simp only [Option.some.injEq,Prod.mk.injEq] at H
 obtain ⟨rfl,rfl,rfl,rfl⟩:=H
 go_enter Try.func32,Try.ntmps32
 try go_wp2_with (first|(refine aX (N:=3) rfl ?_;refine dL 3 #[.int .i64 0,.slice none 0 0] 26 bl ?_;intro ay w4 aa bn HB;have cG:=bn)|(refine aT (f:=47) rfl ?_;refine gC (some 10) Try.func47 #[.slice A0 l0.length c0] ?_;(with_reducible refine (je.calls k _ _ l0 t102 t103 t104 w _ ?av ?ax ?bM A2.z).mono ?_);(case av=>exact aL HB.z);(case ax=>exact dh.z);(case bM=>exact gG.z);rintro e w5 ⟨g105,rfl,hi,hb,hU⟩;refine ⟨_,rfl,?_⟩;replace HB:=k0 hb;have bJ:=k0 hi;have auG:=k0 (ag.avj hi (ck (aB aa.z) hU) (by decide));have qy:=k0 (Ne.symm (ag.avj hi (ck (aB aa.z) hU) (by decide)));replace aa:=kB aa hU)|(refine aT (f:=75) rfl ?_;refine gC (some 11) Try.func75 #[.pointer (some ⟨g105,0,none⟩)] ?_;(with_reducible refine (iJ.calls k g105 t102 t103 t104 t106 t107 t108 t111 t114 t115 w _ ?av ?ax A3.z).mono ?_);(case av=>exact aA bJ.z);(case ax=>exact aG (ag.ge bJ.z) HB.z);rintro e w6 ⟨Lq,cA,rfl,as2,k8,hi,hb,hk⟩;refine ⟨_,rfl,?_⟩;have fk:=k0 (Kd.vR (Kd.bf (ok':=fun k_=>(w.heap.size≤k_)∧some k_ ≠ (cA:Value).ownBlock∧k_ ≠ ay∧k_ ≠ g105) as2 (fun k_ aU=>⟨(Nat.le_trans (as8 (aG (ag.ge bJ.z) HB.z)) aU.1),aU.2,(Kd.qK (aB aa.z) k_ aU.1),(ag.fresh (aA bJ.z) k_ aU.1)⟩)) (as8 (aG (ag.ge bJ.z) HB.z)));replace aa:=kK hk aa qy;have eg:=k0 (Kd.cg (Kd.rY (M:=fun k_=>(w.heap.size≤k_)) (Kd.aH (ok':=fun k_=>True) k8 (fun _ aU=>trivial)) (as8 (aG (ag.ge bJ.z) HB.z)) (fun k_ h_=>h_)) (as8 (aG (ag.ge bJ.z) HB.z)));replace HB:=k0 hb;replace bJ:=k0 hi)|(refine aX (N:=6) rfl ?_;refine eJ 6 #[.int .i64 0,.slice none 0 0] 26 ?_;intro cl hg w7 aY hb;replace fk:=atZ fk hg hb;replace eg:=eI eg hb;have fT:=k0 aY;have Sm:=k0 ((by rw [hg];exact (as8 (aG (ag.ge bJ.z) HB.z)):w.heap.size≤cl));have Sk:=k0 ((by rw [hg];exact (as8 (aG (ag.ge bJ.z) HB.z)):w.heap.size≤cl));replace HB:=k0 (cu (aG (ag.ge bJ.z) HB.z) hb);have vI:=nL hg aa;have lU:=nG vI;replace aa:=kB aa hb;have Te:=k0 ((by rw [hg];exact Nat.ne_of_lt (ag.lt (show ag w _ g105 t102 t114 t115 from aA bJ.z)):g105 ≠ cl));have Ac:=k0 ((by rw [hg];exact Nat.ne_of_gt (ag.lt (show ag w _ g105 t102 t114 t115 from aA bJ.z)):cl ≠ g105));replace bJ:=k0 (ag.below (aA bJ.z) hb);clear hb aY hg;obtain ⟨_,_⟩:=nE lU;obtain ⟨_,_⟩:=nE Ac;obtain ⟨_,_,_,_⟩:=as9 fT;obtain ⟨gB,gx,rfl⟩:=Kd.auA fk.z))
 have fC:af (Kd.V (Kd.slice 2 (Kd.int .i64)) 29 ((w7.setCell ⟨cl,0,none⟩ (.int .i64 t107)).setCell ⟨cl,1,none⟩ (.slice gB t108.length gx)) w.heap.size (fun k_=>(w.heap.size≤k_)∧some k_ ≠ (cA:Value).ownBlock∧k_ ≠ ay∧k_ ≠ g105∧k_ ≠ cl) (.slice gB t108.length gx) t108):=⟨aV (Kd.bf (Kd.iO (p:=⟨cl,1,none⟩) (Kd.iO (p:=⟨cl,0,none⟩) (Kd.bf fk.z (fun k_ hk=>(⟨hk,hk.2⟩:_∧k_ ≠ cl))) (fun _ hk=>hk.2) (.int .i64 t107)) (fun _ hk=>hk.2) (.slice gB t108.length gx)) (fun _ hk=>⟨hk.1.1.1,⟨hk.1.1.2.1,⟨hk.1.1.2.2.1,⟨hk.1.1.2.2.2,hk.1.2⟩⟩⟩⟩))⟩
 have fD:af (Kd.R (Kd.int .i64) 2 ((w7.setCell ⟨cl,0,none⟩ (.int .i64 t107)).setCell ⟨cl,1,none⟩ (.slice gB t108.length gx)) w.heap.size (fun k_=>(w.heap.size≤k_)) cA t111):=⟨aR (Kd.aH (gR 1 (.slice gB t108.length gx) (gR 0 (.int .i64 t107) (tR eg fT))) (fun _ hk=>hk.1.1))⟩
 have gN:af (((w7.setCell ⟨cl,0,none⟩ (.int .i64 t107)).setCell ⟨cl,1,none⟩ (.slice gB t108.length gx)).heap[ay]?=some (.cells #[.int .i64 0,.slice none 0 0] 26 (0,0))):=⟨kZ⟩
 have jb:af (((w7.setCell ⟨cl,0,none⟩ (.int .i64 t107)).setCell ⟨cl,1,none⟩ (.slice gB t108.length gx)).heap[cl]?=some (sO t107 gB t108 gx 26)):=⟨kZ⟩
 have kn:af (ag w ((w7.setCell ⟨cl,0,none⟩ (.int .i64 t107)).setCell ⟨cl,1,none⟩ (.slice gB t108.length gx)) g105 t102 t114 t115):=⟨aA bJ.z⟩
 have aua:af (Below w.heap.size w ((w7.setCell ⟨cl,0,none⟩ (.int .i64 t107)).setCell ⟨cl,1,none⟩ (.slice gB t108.length gx))):=⟨aG (ag.ge bJ.z) HB.z⟩
 generalize ((w7.setCell ⟨cl,0,none⟩ (.int .i64 t107)).setCell ⟨cl,1,none⟩ (.slice gB t108.length gx))=auL at fC fD gN jb kn aua ⊢
 have fk:=fC
 have eg:=fD
 have aa:=gN
 have fT:=jb
 have bJ:=kn
 have HB:=aua
 clear fC fD gN jb kn aua
 replace fk:=k0 (Kd.vQ fk.z);replace eg:=k0 (Kd.di eg.z);replace aa:=k0 (dg aa.z);replace fT:=k0 (dg fT.z);replace bJ:=k0 (ag.drew bJ.z);replace HB:=k0 (eZ HB.z)
 refine atG (n:=6) (S:=fun w'=>w'.cell? ⟨cl,0,none⟩=some (.int .i64 t107)∧w'.cell? ⟨cl,1,none⟩=some (.slice gB t108.length gx)) (ds:=[]) (ba 6 0) (by kernel_rfl) rfl rfl ⟨dU fT,ej fT⟩ (fun hHeld=>?_)
 generalize auL.drew=rK at fk eg aa fT bJ HB hHeld ⊢
 refine jc (i:=0) (N:=some 15) (v:=?_) (a':=?_) (ba 6 1) rfl rfl (by kernel_rfl) (fun _ _ _ h=>h) (Or.inl ⟨by rfl,?_⟩) ?_ ?_
 rotate_left;· intro w';go_simp;with_reducible rfl
 rotate_left;· simp only [Act.put,zI,zZ,zS,bp,bH];rfl
 refine jc (i:=2) (N:=some 17) (v:=?_) (a':=?_) (ba 6 5) rfl rfl (by kernel_rfl) (fun _ _ _ h=>h) (Or.inl ⟨by rfl,?_⟩) ?_ ?_
 rotate_left;· intro w';go_simp;with_reducible rfl
 rotate_left;· simp only [Act.put,zI,zZ,zS,bp,bH];rfl
 refine jc (i:=3) (N:=some 2) (v:=?_) (a':=?_) (ba 6 13) rfl rfl (by kernel_rfl) (fun _ _ _ h=>h) (Or.inl ⟨by rfl,?_⟩) ?_ ?_
 rotate_left;· intro w';go_simp;with_reducible rfl
 rotate_left;· simp only [Act.put,zI,zZ,zS,bp,bH];rfl
 refine oQ (i:=1) (N:=some 16) (v:=?_) (a':=?_) (ba 6 15) rfl rfl (by kernel_rfl) (fun _ _ _ h=>h) (Or.inl ⟨by rfl,?_⟩) hHeld ?_ ?_
 rotate_left;· rintro w' ⟨s0,s1⟩;go_simp;with_reducible rfl
 rotate_left;· simp only [Act.put,zI,zZ,zS,bp,bH];rfl
 refine atw (i:=4) (N:=none) (ba 6 31) rfl rfl (by kernel_rfl) (by decide) (fun K hK=>?_)
 obtain ⟨_,_⟩:=uD aa
 have aq':=lU.z
 have aqq:=vI.z
 have art:=ej aa
 have apA:=bF aa 1
 have aq_:=lU.z
 have aqr:=vI.z
 refine lf (w1:=?_) (by rfl) rfl ?_ ?_
 rotate_left;· go_simp;rfl
 refine hK.out _ _ ⟨((cell_far (p:=⟨ay,_,none⟩) lU.z _).trans (((cell_far (p:=⟨ay,_,none⟩) lU.z _).trans (hHeld.1)))),((cell_far (p:=⟨ay,_,none⟩) lU.z _).trans (((cell_far (p:=⟨ay,_,none⟩) lU.z _).trans (hHeld.2))))⟩ (fun hHeld=>?_)
 clear hK K
 refine jc (i:=5) (N:=some 4) (v:=?_) (a':=?_) (ba 6 63) rfl rfl (by kernel_rfl) (fun _ _ _ h=>h) (Or.inl ⟨by rfl,?_⟩) ?_ ?_
 rotate_left;· intro w';go_simp;with_reducible rfl
 rotate_left;· simp only [Act.put,zI,zZ,zS,bp,bH];rfl
 refine gY (by kernel_rfl) ?_
 try go_wp2
 refine bodyPost_ret (zu (rs:=[.tmp 2,.cell 3 26,.tmp 4]) rfl (by simp) (.tmp (.cell ay 26 #[.int .i64 t107,.slice gB t108.length gx] (0,0) _ rfl kZ Try.underlying26 rfl (by kernel_rfl) (.tmp .nil)))) rfl ?_
 exact ⟨_,_,eR,aV (Kd.bf (Kd.iO (p:=⟨ay,1,none⟩) (Kd.iO (p:=⟨ay,0,none⟩) (Kd.bf fk.z (fun k_ hk=>(⟨hk,hk.2.2.1⟩:_∧k_ ≠ ay))) (fun _ hk=>hk.2) (.int .i64 t107)) (fun _ hk=>hk.2) (.slice gB t108.length gx)) (fun _ hk=>⟨hk.1.1,hk.1.2.1⟩)),aR (Kd.aH (gR 1 (.slice gB t108.length gx) (gR 0 (.int .i64 t107) (tR eg aa))) (fun _ hk=>hk.1)),aG (ag.ge bJ.z) HB.z⟩
/-! ### F85: function 85 -/
def fU.f (a0:Int) (a1:Int) (a2:Int):Option (Bool):=if a0 ≥ a1 then (some (decide (a0≤a2))) else (some false)
theorem fU.calls (a0 : Int) (a1 : Int) (a2 : Int) (r : Bool) (w : World) (h : fU.f a0 a1 a2 = some r) :
  Calls Try.prog 85 #[.int .i64 a0,.int .i64 a1,.int .i64 a2] w fun e w'=>e=.returned (.bool r)∧iV w w':=by
 unfold fU.f at h
 have H:=h
 clear h
 replace H:=iC H;obtain ⟨gI,H⟩|⟨gI,H⟩:=H
 case inl =>
  obtain rfl:=Option.some.inj H
  go_enter Try.func85,Try.ntmps85
  go_wp2
  go_ret
  exact ⟨rs,dW⟩
 obtain rfl:=Option.some.inj H
 go_enter Try.func85,Try.ntmps85
 go_wp2
 go_ret
 exact ⟨rs,dW⟩
/-! ### F66: function 66 -/
def kQ.l0 : Nat → List (List Int) → Int → Int → Int → List (List Int) → Option (Bool)
 | 0,_,_,_,_,_=>none
 | k+1,x6,x7,x8,cn,cF=>if x8 < x7 then (if 0≤x8 then (if x8 < (x6.length:Int) then (if ((ai x6 x8).length:Int)=2 then (if 0 < ((ai x6 x8).length:Int) then ((fU.f (rd (ai x6 x8) 0) 0 (wrap64 (cn - 1))).bind fun t105=>(if t105=true then (if 1 < ((ai x6 x8).length:Int) then ((fU.f (rd (ai x6 x8) 1) 0 (wrap64 (cn - 1))).bind fun t107=>(if t107=true then (kQ.l0 k x6 x7 (wrap64 (x8+1)) cn cF) else (some false))) else (none)) else (some false))) else (none)) else (some false)) else (none)) else (none)) else ((fU.f cn 1 8).bind fun t102=>(if t102=true then (some (decide ((cF.length:Int)≤10))) else (some false)))
def kQ.f (k:Nat) (as0:Int) (ak:List (List Int)):Option (Bool):=kQ.l0 k ak (ak.length:Int) 0 as0 ak
theorem kQ.calls (k : Nat) (as0 : Int) (bu : Option Addr) (bq : Nat) (ak : List (List Int)) (r : Bool) (w : World) (dy : Kd.C (Kd.slice 2 (Kd.int .i64)) w bu ak.length ak) (ey : ak.length ≤ bq) (h : kQ.f k as0 ak = some r) :
  Calls Try.prog 66 #[.agg #[.int .i64 as0,.slice bu ak.length bq]] w fun e w'=>e=.returned (.bool r)∧Below w.heap.size w w':=by
 have gV:=Try.underlying26
 have dJ:=k0 dy
 have iK:=k0 ey
 clear dy ey
 have HB:=k0 (Below.refl w.heap.size w)
 unfold kQ.f at h
 have H:=h
 clear h
 have H':=k0 H
 clear H
 go_enter Try.func66,Try.ntmps66
 go_wp2_with (first|(refine aX (N:=1) rfl ?_;(try (refine at2 (by rfl) ?_;dsimp only));refine dL 1 #[.int .i64 as0,.slice bu ak.length bq] 26 bl ?_;intro ay w2 aa bn HB;have cG:=bn;obtain ⟨WH,WI,WX,WY⟩:=as9 aa))
 repeat (go_quiet (first|(refine aX (N:=1) rfl ?_;(try (refine at2 (by rfl) ?_;dsimp only));refine dL 1 #[.int .i64 as0,.slice bu ak.length bq] 26 bl ?_;intro ay w2 aa bn HB;have cG:=bn;obtain ⟨WH,WI,WX,WY⟩:=as9 aa));try go_wp2_with (first|(refine aX (N:=1) rfl ?_;(try (refine at2 (by rfl) ?_;dsimp only));refine dL 1 #[.int .i64 as0,.slice bu ak.length bq] 26 bl ?_;intro ay w2 aa bn HB;have cG:=bn;obtain ⟨WH,WI,WX,WY⟩:=as9 aa)))
 go_loopg [8] k (fun kq v8 w'=>∃ (dA:Int),v8=.int .i64 dA∧af (kQ.l0 kq ak (ak.length:Int) dA as0 ak=some r)∧af (kq≤k)∧af (w'.heap[ay]?=some (sO as0 bu ak bq 26))∧af (Below w.heap.size w w'))
 case atStart=>exact ⟨(0),rs,H',⟨Nat.le_refl _⟩,⟨bk⟩,⟨bl⟩⟩
 case round =>
  clear H'
  obtain ⟨dA,rfl,HA,as3,aa,HB⟩:=hrel
  cases gk with
  | zero=>exact absurd HA.z (by simp [kQ.l0])
  | succ k1 =>
   have H:=HA.z
   clear HA
   simp only [kQ.l0] at H
   replace H:=iC H;obtain ⟨gI,H⟩|⟨gI,H⟩:=H
   case inl =>
    replace H:=bS H;obtain ⟨t102,xG,H⟩:=H
    cases t102
    case false =>
     replace H:=iF H
     obtain rfl:=Option.some.inj H
     obtain ⟨_,_,_,_⟩:=as9 aa
     go_wp2_with (first|(go_at_call 85;(with_reducible refine (fU.calls as0 1 8 false _ xG.z).mono ?_);rintro e w' ⟨rfl,⟨nd,rfl⟩⟩;(try exact dN)))
     repeat (go_quiet (first|(go_at_call 85;(with_reducible refine (fU.calls as0 1 8 false _ xG.z).mono ?_);rintro e w' ⟨rfl,⟨nd,rfl⟩⟩;(try exact dN)));try go_wp2_with (first|(go_at_call 85;(with_reducible refine (fU.calls as0 1 8 false _ xG.z).mono ?_);rintro e w' ⟨rfl,⟨nd,rfl⟩⟩;(try exact dN))))
     go_ret
     exact ⟨eR,bl⟩
    replace H:=iT H
    obtain rfl:=Option.some.inj H
    obtain ⟨_,_,_,_⟩:=as9 aa
    go_wp2_with (first|(go_at_call 85;(with_reducible refine (fU.calls as0 1 8 true _ xG.z).mono ?_);rintro e w' ⟨rfl,⟨nd,rfl⟩⟩;(try exact dN)))
    repeat (go_quiet (first|(go_at_call 85;(with_reducible refine (fU.calls as0 1 8 true _ xG.z).mono ?_);rintro e w' ⟨rfl,⟨nd,rfl⟩⟩;(try exact dN)));try go_wp2_with (first|(go_at_call 85;(with_reducible refine (fU.calls as0 1 8 true _ xG.z).mono ?_);rintro e w' ⟨rfl,⟨nd,rfl⟩⟩;(try exact dN))))
    go_ret
    exact ⟨eR,bl⟩
   replace H:=iS H;obtain ⟨c5,H⟩:=H
   have gJ:=decide_eq_true c5
   clear c5
   replace H:=iS H;obtain ⟨c6,H⟩:=H
   have iP:=decide_eq_true c6
   clear c6
   replace H:=iE H;obtain ⟨c7,pn,au5,H⟩|⟨pn,au5,H⟩:=H
   case inl =>
    obtain rfl:=Option.some.inj H
    obtain ⟨d_,ec⟩:=iN dA (ak.length:Int)
    obtain ⟨lB,Bz,Cc,e103,eE,auc,aub⟩:=b8 dJ.z dA d_ ec
    cases e103
    replace eE:=hbc HB eE
    have uh:=k0 aub
    have BP:=k0 auc
    clear aub auc
    replace d_:=eT d_
    replace ec:=eT ec
    go_wp2
    repeat (go_quiet (fail);try go_wp2)
    go_ret
    exact ⟨eR,bl⟩
   replace H:=iS H;obtain ⟨c8,H⟩:=H
   have kX:=decide_eq_true c8
   have tj:decide (0 < (ai ak dA).length)=true:=decide_eq_true (by omega)
   clear c8
   replace H:=bS H;obtain ⟨t105,A9,H⟩:=H
   cases t105
   case false =>
    replace H:=iF H
    obtain rfl:=Option.some.inj H
    obtain ⟨d_,ec⟩:=iN dA (ak.length:Int)
    obtain ⟨lB,Bz,Cc,e103,eE,auc,aub⟩:=b8 dJ.z dA d_ ec
    cases e103
    replace eE:=hbc HB eE
    have uh:=k0 aub
    have BP:=k0 auc
    clear aub auc
    replace d_:=eT d_
    replace ec:=eT ec
    have cC:0≤(0:Int):=(by omega)
    have cD:0 < ((ai ak dA).length:Int):=oD
    obtain ⟨jE,e104,cM⟩:=Kd.bK uh.z 0 cC cD
    cases e104
    have Ic:(0 < (ai ak dA).length)=True:=eq_true (by omega)
    (try rw [show ((0:Int)).toNat=0 from rfl] at cM)
    (try rw [Addr.add_zero'] at cM)
    replace cM:=hbc HB cM
    replace cC:=eT cC
    replace cD:=eT cD
    obtain ⟨_,_,_,_⟩:=as9 aa
    go_wp2_with (first|(go_at_call 85;(with_reducible refine (fU.calls (rd (ai ak dA) 0) 0 (wrap64 (as0 - 1)) false _ A9.z).mono ?_);rintro e w' ⟨rfl,⟨nd,rfl⟩⟩;(try exact dN)))
    repeat (go_quiet (first|(go_at_call 85;(with_reducible refine (fU.calls (rd (ai ak dA) 0) 0 (wrap64 (as0 - 1)) false _ A9.z).mono ?_);rintro e w' ⟨rfl,⟨nd,rfl⟩⟩;(try exact dN)));try go_wp2_with (first|(go_at_call 85;(with_reducible refine (fU.calls (rd (ai ak dA) 0) 0 (wrap64 (as0 - 1)) false _ A9.z).mono ?_);rintro e w' ⟨rfl,⟨nd,rfl⟩⟩;(try exact dN))))
    go_ret
    exact ⟨eR,bl⟩
   replace H:=iT H
   replace H:=iS H;obtain ⟨c11,H⟩:=H
   have kW:=decide_eq_true c11
   have Am:decide (1 < (ai ak dA).length)=true:=decide_eq_true (by omega)
   clear c11
   replace H:=bS H;obtain ⟨t107,zN,H⟩:=H
   cases t107
   case false =>
    replace H:=iF H
    obtain rfl:=Option.some.inj H
    obtain ⟨d_,ec⟩:=iN dA (ak.length:Int)
    obtain ⟨lB,Bz,Cc,e103,eE,auc,aub⟩:=b8 dJ.z dA d_ ec
    cases e103
    replace eE:=hbc HB eE
    have uh:=k0 aub
    have BP:=k0 auc
    clear aub auc
    replace d_:=eT d_
    replace ec:=eT ec
    have cC:0≤(0:Int):=(by omega)
    have cD:0 < ((ai ak dA).length:Int):=oD
    obtain ⟨jE,e104,cM⟩:=Kd.bK uh.z 0 cC cD
    cases e104
    have Ic:(0 < (ai ak dA).length)=True:=eq_true (by omega)
    (try rw [show ((0:Int)).toNat=0 from rfl] at cM)
    (try rw [Addr.add_zero'] at cM)
    replace cM:=hbc HB cM
    replace cC:=eT cC
    replace cD:=eT cD
    obtain ⟨_,_,_,_⟩:=as9 aa
    have eL:0≤(1:Int):=(by omega)
    have ee:1 < ((ai ak dA).length:Int):=oD
    obtain ⟨oq,e106,fY⟩:=Kd.bK uh.z 1 eL ee
    obtain rfl:jE=oq:=(by injection e106)
    (try simp only [show (1:Int).toNat=1 from rfl,Nat.reduceMul,Nat.reduceEqDiff,Go.Addr.add,↓reduceIte] at fY)
    have Ld:(1 < (ai ak dA).length)=True:=eq_true (by omega)
    (try rw [show ((1:Int)).toNat=1 from rfl] at fY)
    replace fY:=hbc HB fY
    replace eL:=eT eL
    replace ee:=eT ee
    go_wp2_with (first|(go_at_call 85;(with_reducible refine (fU.calls (rd (ai ak dA) 0) 0 (wrap64 (as0 - 1)) true _ A9.z).mono ?_);rintro e w' ⟨rfl,⟨nd,rfl⟩⟩;(try exact dN))|(go_at_call 85;(with_reducible refine (fU.calls (rd (ai ak dA) 1) 0 (wrap64 (as0 - 1)) false _ zN.z).mono ?_);rintro e w' ⟨rfl,⟨nd,rfl⟩⟩;(try exact dN)))
    repeat (go_quiet (first|(go_at_call 85;(with_reducible refine (fU.calls (rd (ai ak dA) 0) 0 (wrap64 (as0 - 1)) true _ A9.z).mono ?_);rintro e w' ⟨rfl,⟨nd,rfl⟩⟩;(try exact dN))|(go_at_call 85;(with_reducible refine (fU.calls (rd (ai ak dA) 1) 0 (wrap64 (as0 - 1)) false _ zN.z).mono ?_);rintro e w' ⟨rfl,⟨nd,rfl⟩⟩;(try exact dN)));try go_wp2_with (first|(go_at_call 85;(with_reducible refine (fU.calls (rd (ai ak dA) 0) 0 (wrap64 (as0 - 1)) true _ A9.z).mono ?_);rintro e w' ⟨rfl,⟨nd,rfl⟩⟩;(try exact dN))|(go_at_call 85;(with_reducible refine (fU.calls (rd (ai ak dA) 1) 0 (wrap64 (as0 - 1)) false _ zN.z).mono ?_);rintro e w' ⟨rfl,⟨nd,rfl⟩⟩;(try exact dN))))
    go_ret
    exact ⟨eR,bl⟩
   replace H:=iT H
   have H':=k0 H
   clear H
   obtain ⟨d_,ec⟩:=iN dA (ak.length:Int)
   obtain ⟨lB,Bz,Cc,e103,eE,auc,aub⟩:=b8 dJ.z dA d_ ec
   cases e103
   replace eE:=hbc HB eE
   have uh:=k0 aub
   have BP:=k0 auc
   clear aub auc
   replace d_:=eT d_
   replace ec:=eT ec
   have cC:0≤(0:Int):=(by omega)
   have cD:0 < ((ai ak dA).length:Int):=oD
   obtain ⟨jE,e104,cM⟩:=Kd.bK uh.z 0 cC cD
   cases e104
   have Ic:(0 < (ai ak dA).length)=True:=eq_true (by omega)
   (try rw [show ((0:Int)).toNat=0 from rfl] at cM)
   (try rw [Addr.add_zero'] at cM)
   replace cM:=hbc HB cM
   replace cC:=eT cC
   replace cD:=eT cD
   obtain ⟨_,_,_,_⟩:=as9 aa
   have eL:0≤(1:Int):=(by omega)
   have ee:1 < ((ai ak dA).length:Int):=oD
   obtain ⟨oq,e106,fY⟩:=Kd.bK uh.z 1 eL ee
   obtain rfl:jE=oq:=(by injection e106)
   (try simp only [show (1:Int).toNat=1 from rfl,Nat.reduceMul,Nat.reduceEqDiff,Go.Addr.add,↓reduceIte] at fY)
   have Ld:(1 < (ai ak dA).length)=True:=eq_true (by omega)
   (try rw [show ((1:Int)).toNat=1 from rfl] at fY)
   replace fY:=hbc HB fY
   replace eL:=eT eL
   replace ee:=eT ee
   go_wp2_with (first|(go_at_call 85;(with_reducible refine (fU.calls (rd (ai ak dA) 0) 0 (wrap64 (as0 - 1)) true _ A9.z).mono ?_);rintro e w' ⟨rfl,⟨nd,rfl⟩⟩;(try exact dN))|(go_at_call 85;(with_reducible refine (fU.calls (rd (ai ak dA) 1) 0 (wrap64 (as0 - 1)) true _ zN.z).mono ?_);rintro e w' ⟨rfl,⟨nd,rfl⟩⟩;(try exact dN)))
   repeat (go_quiet (first|(go_at_call 85;(with_reducible refine (fU.calls (rd (ai ak dA) 0) 0 (wrap64 (as0 - 1)) true _ A9.z).mono ?_);rintro e w' ⟨rfl,⟨nd,rfl⟩⟩;(try exact dN))|(go_at_call 85;(with_reducible refine (fU.calls (rd (ai ak dA) 1) 0 (wrap64 (as0 - 1)) true _ zN.z).mono ?_);rintro e w' ⟨rfl,⟨nd,rfl⟩⟩;(try exact dN)));try go_wp2_with (first|(go_at_call 85;(with_reducible refine (fU.calls (rd (ai ak dA) 0) 0 (wrap64 (as0 - 1)) true _ A9.z).mono ?_);rintro e w' ⟨rfl,⟨nd,rfl⟩⟩;(try exact dN))|(go_at_call 85;(with_reducible refine (fU.calls (rd (ai ak dA) 1) 0 (wrap64 (as0 - 1)) true _ zN.z).mono ?_);rintro e w' ⟨rfl,⟨nd,rfl⟩⟩;(try exact dN))))
   go_roundg k1
   case measure=>have:=as3.z;omega
   case rel=>exact ⟨(wrap64 (dA+1)),rs,H',⟨by have:=as3.z;omega⟩,⟨bk⟩,⟨bl⟩⟩
-- NOT PRINTED: function 62 (impl_graphCode)
/-! ### F77: function 77 -/
def mC.l0 : Nat → Int → Int → Option (Bool)
 | 0,_,_=>none
 | k+1,x0,x3=>if (wrap64 (x3 * x3))≤x0 then (if x3=0 then (none) else (if (Int.tmod x0 x3)=0 then (some false) else (mC.l0 k x0 (wrap64 (x3+1))))) else (some true)
def mC.f (k:Nat) (a0:Int):Option (Bool):=(fU.f a0 2 10007).bind fun t101=>(if t101=true then (mC.l0 k a0 2) else (some false))
theorem mC.calls (k : Nat) (a0 : Int) (r : Bool) (w : World) (h : mC.f k a0 = some r) :
  Calls Try.prog 77 #[.int .i64 a0] w fun e w'=>e=.returned (.bool r)∧iV w w':=by
 unfold mC.f at h
 have H:=h
 clear h
 replace H:=bS H;obtain ⟨t101,A2,H⟩:=H
 cases t101
 case false =>
  replace H:=iF H
  obtain rfl:=Option.some.inj H
  go_enter Try.func77,Try.ntmps77
  go_wp2_with (first|(refine aT (f:=85) rfl ?_;refine gC (some 5) Try.func85 #[.int .i64 a0,.int .i64 2,.int .i64 10007] ?_;(with_reducible refine (fU.calls a0 2 10007 false _ A2.z).mono ?_);rintro e w' ⟨rfl,⟨nd,rfl⟩⟩;refine ⟨_,rfl,?_⟩))
  go_ret
  exact ⟨rs,dW⟩
 replace H:=iT H
 have H':=k0 H
 clear H
 go_enter Try.func77,Try.ntmps77
 go_wp2_with (first|(refine aT (f:=85) rfl ?_;refine gC (some 5) Try.func85 #[.int .i64 a0,.int .i64 2,.int .i64 10007] ?_;(with_reducible refine (fU.calls a0 2 10007 true _ A2.z).mono ?_);rintro e w' ⟨rfl,⟨nd,rfl⟩⟩;refine ⟨_,rfl,?_⟩))
 go_loopg [3] k (fun kq v3 w'=>∃ (cQ:Int),v3=.int .i64 cQ∧af (mC.l0 kq a0 cQ=some r)∧af (kq≤k)∧iV w w')
 case atStart=>exact ⟨(2),rs,H',⟨Nat.le_refl _⟩,dW⟩
 case round =>
  clear H'
  obtain ⟨cQ,rfl,HA,as3,⟨m1,rfl⟩⟩:=hrel
  cases gk with
  | zero=>exact absurd HA.z (by simp [mC.l0])
  | succ k1 =>
   have H:=HA.z
   clear HA
   simp only [mC.l0] at H
   replace H:=iC H;obtain ⟨gI,H⟩|⟨gI,H⟩:=H
   case inl =>
    obtain rfl:=Option.some.inj H
    go_wp2
    go_ret
    exact ⟨rs,dW⟩
   by_cases c5:cQ=0
   case neg =>
    rw [if_neg c5] at H
    have gJ:=beq_eq_false_iff_ne.mpr c5
    have rA:=bne_iff_ne.mpr c5
    replace H:=iE H;obtain ⟨c6,iP,mY,H⟩|⟨iP,mY,H⟩:=H
    case inl =>
     have H':=k0 H
     clear H
     go_wp2
     go_roundg k1
     case measure=>have:=as3.z;omega
     case rel=>exact ⟨(wrap64 (cQ+1)),rs,H',⟨by have:=as3.z;omega⟩,dW⟩
    obtain rfl:=Option.some.inj H
    go_wp2
    go_ret
    exact ⟨rs,dW⟩
   rw [if_pos c5] at H
   exact absurd H (by simp)
/-! ### F64: function 64 -/
def q4.f (as0:Int) (ak:List (List Int)):Option (Int):=some (ak.length:Int)
theorem q4.calls (as0 : Int) (bu : Option Addr) (bq : Nat) (ak : List (List Int)) (r : Int) (w : World) (dy : Kd.C (Kd.slice 2 (Kd.int .i64)) w bu ak.length ak) (ey : ak.length ≤ bq) (h : q4.f as0 ak = some r) :
  Calls Try.prog 64 #[.agg #[.int .i64 as0,.slice bu ak.length bq]] w fun e w'=>e=.returned (.int .i64 r)∧Below w.heap.size w w':=by
 have gV:=Try.underlying26
 have dJ:=k0 dy
 have iK:=k0 ey
 clear dy ey
 have HB:=k0 (Below.refl w.heap.size w)
 unfold q4.f at h
 have H:=h
 clear h
 obtain rfl:=Option.some.inj H
 go_enter Try.func64,Try.ntmps64
 go_wp2_with (first|(refine aX (N:=1) rfl ?_;refine dL 1 #[.int .i64 as0,.slice bu ak.length bq] 26 bl ?_;intro ay w2 aa bn HB;have cG:=bn;obtain ⟨_,_,_,_⟩:=as9 aa))
 go_ret
 exact ⟨eR,bl⟩
/-! ### F78: function 78 -/
def yt (m:Int) (x:Int):Bool:=!(decide (0≤x) && decide (x≤m))
theorem alB (b : Nat) (p x : Int) (w1 : World) (h0 : w1.cell? ⟨b, 0, none⟩ = some (.int .i64 p)) :
  Calls Try.prog 115 #[.int .i64 x,.pointer (some ⟨b,0,none⟩)] w1 fun e w'=>e=.returned (.bool (yt (wrap64 (p - 1)) x))∧Below w1.heap.size w1 w':=by
 have h:fU.f x 0 (wrap64 (p - 1))=some (decide (0≤x) && decide (x≤wrap64 (p - 1))):=by
  unfold fU.f
  by_cases h1:0≤x<;>simp [h1]
 have HX:af (yt (wrap64 (p - 1)) x=!(decide (0≤x) && decide (x≤wrap64 (p - 1)))):=⟨rfl⟩
 generalize (decide (0≤x) && decide (x≤wrap64 (p - 1)))=bb at h HX
 have HW:=k0 h
 clear h
 go_enter Try.func115,Try.ntmps115
 go_wp2_with (go_at_call 85;refine (fU.calls _ _ _ bb _ HW.z).mono ?_;rintro e w_ ⟨rfl,⟨CY,rfl⟩⟩)
 go_ret
 exact ⟨by rw [HX.z];rfl,by repeat (first|exact Below.refl _ _|apply atz|apply eH)⟩
theorem alA (p : Int → Bool) (b : Nat) (A : Option Addr) (c : Nat) (l : List Int) (w : World) (hr : Kd.C (Kd.int .i64) w A l.length l)
 (hp:∀ x w1,Below w.heap.size w w1→Calls Try.prog 115 #[.int .i64 x,.pointer (some ⟨b,0,none⟩)] w1 fun e w'=>e=.returned (.bool (p x))∧Below w1.heap.size w1 w') :
 Calls Try.prog 130 #[.slice A l.length c,.func (.func 115) #[] #[.pointer (some ⟨b,0,none⟩)]] w fun e w'=>e=.returned (.int .i64 (l_ p l 0))∧Below w.heap.size w w':=by
 have HR:=k0 hr
 have HP:=k0 hp
 have hlen:l.length≤9223372036854775807:=hr.2.1
 clear hr hp
 go_enter Try.func130,Try.ntmps130
 go_wp2_with fail
 go_loopw [8] (fun i wr=>∃ k:Nat,k≤l.length∧i=.int .i64 k∧af (l_ p (l.drop k) k=l_ p l 0)∧af (Below w.heap.size w wr)) (fun i _=>l.length - (intOf i).toNat)
 case atStart=>exact ⟨0,Nat.zero_le _,rfl,⟨by simp⟩,⟨Below.refl _ _⟩⟩
 case round =>
  obtain ⟨k,hk,rfl,HI,HB⟩:=hrel
  by_cases hlt:k < l.length
  case neg =>
   have HD:af (l_ p l 0=-1):=⟨by rw [← HI.z,List.drop_of_length_le (by omega)];rfl⟩
   have hb:decide (k < l.length)=false:=by simp;omega
   go_wp2
   go_ret
   exact ⟨by rw [HD.out];rfl,HB.z⟩
  obtain ⟨ad,e,hcell⟩:=Kd.bK (Kd.bL HR.z HB.z) k (by omega) (by omega)
  cases e
  rw [Int.toNat_natCast] at hcell
  cases hpx:p (rd l k) with
  | true =>
   have HD:af (l_ p l 0=k):=⟨by rw [← HI.z,KI p l k hlt,hpx];rfl⟩
   have HX:=k0 hpx
   clear hpx
   go_wp2_with (go_at_call 115;refine (HP.out _ _ HB.z).mono ?_;rw [HX.z];rintro e w' ⟨rfl,fo⟩;have dF:=k0 (cu HB.z fo);clear fo)
   go_ret
   exact ⟨by rw [HD.out];rfl,dF.z⟩
  | false =>
   have HD:af (l_ p (l.drop (k+1)) (k+1)=l_ p l 0):=⟨by rw [← HI.z,KI p l k hlt,hpx];rfl⟩
   have HX:=k0 hpx
   clear hpx
   go_wp2_with (go_at_call 115;refine (HP.out _ _ HB.z).mono ?_;rw [HX.z];rintro e w' ⟨rfl,fo⟩;have dF:=k0 (cu HB.z fo);clear fo)
   go_roundw
   case rel=>exact ⟨k+1,by omega,by go_num,HD,dF⟩
   case measure=>simp [intOf];omega
theorem aly (p : Int → Bool) (b : Nat) (A : Option Addr) (c : Nat) (l : List Int) (w : World) (hr : Kd.C (Kd.int .i64) w A l.length l)
 (hp:∀ x w1,Below w.heap.size w w1→Calls Try.prog 115 #[.int .i64 x,.pointer (some ⟨b,0,none⟩)] w1 fun e w'=>e=.returned (.bool (p x))∧Below w1.heap.size w1 w') :
 Calls Try.prog 109 #[.slice A l.length c,.func (.func 115) #[] #[.pointer (some ⟨b,0,none⟩)]] w fun e w'=>e=.returned (.bool (l.any p))∧Below w.heap.size w w':=by
 have HC:=alA p b A c l w hr hp
 have HX:af (l.any p=decide (0≤l_ p l 0)):=⟨(Ye p l 0).symm⟩
 have yD:=k0 HC
 clear HC hr hp
 go_enter Try.func109,Try.ntmps109
 go_wp2_with (go_at_call 130;refine yD.z.mono ?_;rintro e w' ⟨rfl,fo⟩;have dF:=k0 fo;clear fo)
 go_ret
 exact ⟨by rw [HX.z];rfl,dF.z⟩
def vz.f (as0:Int) (ak:List (List Int)) (a1:Int) (l2:List Int):Option Bool:=some (decide ((l2.length:Int)=wrap64 (2 * (ak.length:Int))) && !(l2.any (yt (wrap64 (a1 - 1)))))
theorem vz.calls (as0 : Int) (bu : Option Addr) (bq : Nat) (ak : List (List Int)) (a1 : Int) (A2 : Option Addr) (c2 : Nat) (l2 : List Int) (r : Bool) (w : World) (dy : Kd.C (Kd.slice 2 (Kd.int .i64)) w bu ak.length ak) (ey : ak.length ≤ bq) (atQ : Kd.C (Kd.int .i64) w A2 l2.length l2) (at4 : l2.length ≤ c2) (h : vz.f as0 ak a1 l2 = some r) :
  Calls Try.prog 78 #[.agg #[.int .i64 as0,.slice bu ak.length bq],.int .i64 a1,.slice A2 l2.length c2] w fun e w'=>e=.returned (.bool r)∧Below w.heap.size w w':=by
 have dh:=k0 dy
 have HR:=k0 atQ
 clear dy atQ
 obtain rfl:=Option.some.inj h
 clear h
 have hs:q4.f as0 ak=some (ak.length:Int):=rfl
 have HS:=fun W (hw:Below w.heap.size w W)=>q4.calls as0 bu bq ak _ W (Kd.bL dh.z hw) ey hs
 have Jn:=k0 HS
 clear HS hs
 by_cases hl:((l2.length:Int) == wrap64 (2 * (ak.length:Int)))=true
 case neg =>
  have hl':((l2.length:Int) == wrap64 (2 * (ak.length:Int)))=false:=by simpa using hl
  have HX:af ((decide ((l2.length:Int)=wrap64 (2 * (ak.length:Int))) && !(l2.any (yt (wrap64 (a1 - 1)))))=false):=⟨by simp at hl;simp [hl]⟩
  clear hl
  go_enter Try.func78,Try.ntmps78
  go_wp2_with (go_at_call 64;refine (Jn.out _ (by repeat (first|exact Below.refl _ _|apply eH))).mono ?_;rintro e w2 ⟨rfl,fo⟩;have dF:=k0 (cu (by repeat (first|exact Below.refl _ _|apply eH)) fo:Below w.heap.size w w2);clear fo)
  go_ret
  exact ⟨by rw [HX.z];rfl,dF.z⟩
 have HX:af ((decide ((l2.length:Int)=wrap64 (2 * (ak.length:Int))) && !(l2.any (yt (wrap64 (a1 - 1)))))=!(l2.any (yt (wrap64 (a1 - 1))))):=⟨by simp at hl;simp [hl]⟩
 have HC : ∀ W, Below w.heap.size w W → W.cell? ⟨w.heap.size + 1, 0, none⟩ = some (.int .i64 a1) → w.heap.size + 1 < W.heap.size → _ := fun W hw q0 hz => aly (yt (wrap64 (a1 - 1))) (w.heap.size + 1) A2 c2 l2 W (Kd.bL HR.z hw)
  (fun x w1 hb=>alB (w.heap.size+1) a1 x w1 ((hb.cell (p:=⟨w.heap.size+1,0,none⟩) hz).trans q0))
 have yD:=k0 HC
 clear HC
 generalize yt (wrap64 (a1 - 1))=pb at yD HX ⊢
 go_enter Try.func78,Try.ntmps78
 go_wp2_with (first|(go_at_call 64;refine (Jn.out _ (by repeat (first|exact Below.refl _ _|apply eH))).mono ?_;rintro e w2 ⟨rfl,fo⟩;have dF:=k0 (cu (by repeat (first|exact Below.refl _ _|apply eH)) fo:Below w.heap.size w w2);have sZ:=k0 ((fo.cell (p:=⟨w.heap.size+1,0,none⟩) (by simp)).trans (by go_simp):w2.cell? ⟨w.heap.size+1,0,none⟩=some (.int .i64 a1));have HZ0:af (w.heap.size+1 < w2.heap.size):=⟨by have hs_:=fo.size;simp at hs_;omega⟩;clear fo)|(go_at_call 109;refine (yD.z _ dF.z sZ.out HZ0.out).mono ?_;rintro e w' ⟨rfl,fo⟩;have sQ:=k0 (cu dF.z fo);clear fo))
 go_ret
 exact ⟨by rw [HX.z];rfl,sQ.z⟩
/-! ### F76: function 76 -/
def zV.f (k:Nat) (as0:Int) (ak:List (List Int)) (a1:Int) (kC:Int) (iD:List (List Int)) (l3:List Int):Option Int :=
 (kQ.f k as0 ak).bind fun b=>if b=true then ((mC.f k a1).bind fun q0=>if q0=true then ((vz.f kC iD a1 l3).bind fun q1=>if q1=true then some 0 else some 2) else some 2) else some 1
theorem zV.calls {b1 : Nat} {b2 : Nat} {b3 : Nat} (k : Nat) (as0 : Int) (bu : Option Addr) (bq : Nat) (ak : List (List Int)) (a1 : Int) (kC : Int) (nV : Option Addr) (ox : Nat) (iD : List (List Int)) (A3 : Option Addr) (c3 : Nat) (l3 : List Int) (r : Int) (w : World) (dy : Kd.C (Kd.slice 2 (Kd.int .i64)) w bu ak.length ak) (ey : ak.length ≤ bq) (AV : Kd.C (Kd.slice 2 (Kd.int .i64)) w nV iD.length iD) (EC : iD.length ≤ ox) (sy : Kd.C (Kd.int .i64) w A3 l3.length l3) (v_ : l3.length ≤ c3) (i_ : w.heap[b1]? = some (.cells #[.int .i64 a1] 2 (0, 0))) (hU : w.heap[b2]? = some (sO kC nV iD ox 26)) (auP : w.heap[b3]? = some (.cells #[.slice A3 l3.length c3] 29 (0, 0))) (h : zV.f k as0 ak a1 kC iD l3 = some r) :
  Calls Try.prog 62 #[.agg #[.int .i64 as0,.slice bu ak.length bq],.func (.func 76) #[] #[.pointer (some ⟨b1,0,none⟩),.pointer (some ⟨b2,0,none⟩),.pointer (some ⟨b3,0,none⟩)]] w fun e w'=>e=.returned (.int .i64 r)∧Below w.heap.size w w':=by
 have dh:=k0 dy
 clear dy
 have iX:=k0 AV
 clear AV
 have uj:=k0 sy
 clear sy
 have nW:=k0 i_
 have L8:=lX i_
 clear i_
 have iU:=k0 hU
 have L9:=lX hU
 clear hU
 have aup:=k0 auP
 have Se:=lX auP
 clear auP
 unfold zV.f at h
 obtain ⟨b,hb,h⟩:=Option.bind_eq_some_iff.mp h
 have HG:=fun W (hw:Below w.heap.size w W)=>kQ.calls k as0 bu bq ak b W (Kd.bL dh.z hw) ey hb
 have BS:=k0 HG
 clear HG hb
 cases b
 case' true =>
  simp only [if_true] at h
  obtain ⟨q0,wE,h⟩:=Option.bind_eq_some_iff.mp h
  have sZ:=fun W (hw:Below w.heap.size w W)=>mC.calls k (a1) q0 W  wE
  have BV:=k0 sZ
  clear sZ wE
  cases q0
  case' true =>
   simp only [if_true] at h
   obtain ⟨q1,rG,h⟩:=Option.bind_eq_some_iff.mp h
   have vE:=fun W (hw:Below w.heap.size w W)=>vz.calls kC nV ox iD (a1) A3 c3 l3 q1 W (Kd.bL iX.z hw) EC (Kd.bL uj.z hw) v_ rG
   have BW:=k0 vE
   clear vE rG
   cases q1
   case' true =>
    simp only [if_true] at h
 all_goals
  simp only [Bool.false_eq_true,if_false,Option.some.injEq] at h
  subst h
  go_enter Try.func62,Try.ntmps62
  go_wp2_with (first|(go_at_call 66;refine (BS.out _ (by repeat (first|exact Below.refl _ _|apply eH|apply atz))).mono ?_;rintro e w1 ⟨rfl,i_⟩;have dw:=k0 (cu (by repeat (first|exact Below.refl _ _|apply eH|apply atz)) i_:Below w.heap.size w w1);clear i_;have Pg:w1.cell? ⟨b1,0,none⟩=some (.int .i64 a1):=(dY (ck nW.z dw.z) 0).trans rfl;have Pr:=fA (ck nW.z dw.z) 0;have Ph:w1.cell? ⟨b2,0,none⟩=some (.int .i64 kC):=(dY (ck iU.z dw.z) 0).trans rfl;have Pt:=fA (ck iU.z dw.z) 0;have WJ:w1.cell? ⟨b2,1,none⟩=some (.slice nV iD.length ox):=(dY (ck iU.z dw.z) 1).trans rfl;have WZ:=fA (ck iU.z dw.z) 1;have WK:w1.cell? ⟨b3,0,none⟩=some (.slice A3 l3.length c3):=(dY (ck aup.z dw.z) 0).trans rfl;have avY:=fA (ck aup.z dw.z) 0)|(go_at_call 77;refine (BV.out _ (by repeat (first|exact dw.z|apply eH|apply atz))).mono ?_;rintro e w_ ⟨rfl,⟨CY,rfl⟩⟩)|(go_at_call 78;refine (BW.out _ (by repeat (first|exact dw.z|apply eH|apply atz))).mono ?_;rintro e w2 ⟨rfl,fo⟩;have dF:=k0 (cu (by repeat (first|exact dw.z|apply eH|apply atz)) fo:Below w.heap.size w w2);clear fo;have WL:w2.cell? ⟨b1,0,none⟩=some (.int .i64 a1):=(dY (ck nW.z dF.z) 0).trans rfl;have avZ:=fA (ck nW.z dF.z) 0;have WM:w2.cell? ⟨b2,0,none⟩=some (.int .i64 kC):=(dY (ck iU.z dF.z) 0).trans rfl;have av0:=fA (ck iU.z dF.z) 0;have WN:w2.cell? ⟨b2,1,none⟩=some (.slice nV iD.length ox):=(dY (ck iU.z dF.z) 1).trans rfl;have W3:=fA (ck iU.z dF.z) 1;have WO:w2.cell? ⟨b3,0,none⟩=some (.slice A3 l3.length c3):=(dY (ck aup.z dF.z) 0).trans rfl;have W4:=fA (ck aup.z dF.z) 0)|go_in)
  go_ret
  exact ⟨rs,by repeat (first|exact dF.z|exact dw.z|apply eH|apply atz|apply eZ)⟩
/-! ### F86: function 86 -/
def nZ.f (a0:Int) (a1:Int):Option (Int):=if a1=0 then (none) else (some (Int.tmod (wrap64 ((Int.tmod a0 a1)+a1)) a1))
theorem nZ.calls (a0 : Int) (a1 : Int) (r : Int) (w : World) (h : nZ.f a0 a1 = some r) :
  Calls Try.prog 86 #[.int .i64 a0,.int .i64 a1] w fun e w'=>e=.returned (.int .i64 r)∧iV w w':=by
 unfold nZ.f at h
 have H:=h
 clear h
 by_cases c3:a1=0
 case neg =>
  rw [if_neg c3] at H
  have lC:=beq_eq_false_iff_ne.mpr c3
  have vU:=bne_iff_ne.mpr c3
  obtain rfl:=Option.some.inj H
  go_enter Try.func86,Try.ntmps86
  go_wp2
  go_ret
  exact ⟨rs,dW⟩
 rw [if_pos c3] at H
 exact absurd H (by simp)
/-! ### F108: function 108 -/
def nX.l0 : Nat → Int → Int → Int → Int → Option (Int)
 | 0,_,_,_,_=>none
 | k+1,x0,x1,x5,x6=>if x6 > 0 then (if (Int.tmod x6 2)=1 then (if x1=0 then (none) else (nX.l0 k (Int.tmod (wrap64 (x0 * x0)) x1) x1 (Int.tmod (wrap64 (x5 * x0)) x1) (wrap64 (Int.tdiv x6 2)))) else (if x1=0 then (none) else (nX.l0 k (Int.tmod (wrap64 (x0 * x0)) x1) x1 x5 (wrap64 (Int.tdiv x6 2))))) else (some x5)
def nX.f (k:Nat) (a0:Int) (a1:Int):Option (Int):=nX.l0 k a0 a1 1 (wrap64 (a1 - 2))
theorem nX.calls (k : Nat) (a0 : Int) (a1 : Int) (r : Int) (w : World) (h : nX.f k a0 a1 = some r) :
  Calls Try.prog 108 #[.int .i64 a0,.int .i64 a1] w fun e w'=>e=.returned (.int .i64 r)∧iV w w':=by
 unfold nX.f at h
 have H:=h
 clear h
 have H':=k0 H
 clear H
 go_enter Try.func108,Try.ntmps108
 go_wp2
 go_loopg [0,5,6] k (fun kq v0 v5 v6 w'=>∃ (iR:Int) (aD:Int) (as1:Int),v0=.int .i64 iR∧v5=.int .i64 aD∧v6=.int .i64 as1∧af (nX.l0 kq iR a1 aD as1=some r)∧af (kq≤k)∧iV w w')
 case atStart=>exact ⟨(a0),(1),(wrap64 (a1 - 2)),rs,rs,rs,H',⟨Nat.le_refl _⟩,dW⟩
 case round =>
  clear H'
  obtain ⟨iR,aD,as1,rfl,rfl,rfl,HA,as3,⟨m1,rfl⟩⟩:=hrel
  cases gk with
  | zero=>exact absurd HA.z (by simp [nX.l0])
  | succ k1 =>
   have H:=HA.z
   clear HA
   simp only [nX.l0] at H
   replace H:=iC H;obtain ⟨lC,H⟩|⟨lC,H⟩:=H
   case inl =>
    obtain rfl:=Option.some.inj H
    go_wp2
    go_ret
    exact ⟨rs,dW⟩
   replace H:=iE H;obtain ⟨c4,gI,au4,H⟩|⟨gI,au4,H⟩:=H
   case inl =>
    by_cases c6:a1=0
    case neg =>
     rw [if_neg c6] at H
     have iP:=beq_eq_false_iff_ne.mpr c6
     have mY:=bne_iff_ne.mpr c6
     have H':=k0 H
     clear H
     go_wp2
     go_roundg k1
     case measure=>have:=as3.z;omega
     case rel=>exact ⟨(Int.tmod (wrap64 (iR * iR)) a1),(aD),(wrap64 (Int.tdiv as1 2)),rs,rs,rs,H',⟨by have:=as3.z;omega⟩,dW⟩
    rw [if_pos c6] at H
    exact absurd H (by simp)
   by_cases c5:a1=0
   case neg =>
    rw [if_neg c5] at H
    have gJ:=beq_eq_false_iff_ne.mpr c5
    have rA:=bne_iff_ne.mpr c5
    have H':=k0 H
    clear H
    go_wp2
    go_roundg k1
    case measure=>have:=as3.z;omega
    case rel=>exact ⟨(Int.tmod (wrap64 (iR * iR)) a1),(Int.tmod (wrap64 (aD * iR)) a1),(wrap64 (Int.tdiv as1 2)),rs,rs,rs,H',⟨by have:=as3.z;omega⟩,dW⟩
   rw [if_pos c5] at H
   exact absurd H (by simp)
end Go.Proofs.Ytapnggjaeehpdaa.B
/- Set with little white space, by a program. -/
