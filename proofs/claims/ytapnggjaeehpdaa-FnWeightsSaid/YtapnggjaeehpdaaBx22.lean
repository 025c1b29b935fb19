/- Go's calls come to what the Lean functions say. Condition of each: that the Lean function answers. -/
import Derived.Test.YtapnggjaeehpdaaBx0
import Derived.Test.YtapnggjaeehpdaaBx1
import Derived.Test.YtapnggjaeehpdaaBx3
import Derived.Test.YtapnggjaeehpdaaBx7
import Derived.Test.YtapnggjaeehpdaaBx8
import Derived.Test.YtapnggjaeehpdaaBx21
namespace Go.Proofs.Ytapnggjaeehpdaa.B
open Go.RowKit Go.Proofs.bz.dI Go.Proofs.bz.iY Go.Proofs.bz.jn
attribute [local go_sem] max2_int min2_int max_two min_two max_three min_three max_four min_four
set_option linter.unusedVariables false
set_option linter.unusedSimpArgs false
set_option maxHeartbeats 8000000
set_option maxRecDepth 100000
/-! ### F41: function 41 -/
def aur.f (k:Nat) (l0:List Int):Option (Int × Int × (List (List Int)) × List Int × List Int):=(je.f k l0).bind fun eN=>((iJ.f k eN.1 eN.2.1 eN.2.2).bind fun gi=>((cO.f k eN.1 gi.2.2.2.2.1 gi.2.2.2.2.2 gi.2.1 gi.2.2.1).bind fun F8=>(some (gi.1,gi.2.1,gi.2.2.1,gi.2.2.2.1,F8.1))))
def aur.T3:Bool × List (List Nat × List Nat):=(true,[([],[]),([],[]),([],[]),([],[]),([],[]),([3,4],[3,4]),([0,5,0],[0]),([1,6,0,1,6],[1]),([2,7,0,1,2,6,7],[2]),([5,8,0,1,2,3,4,5,6,7,8],[5])])
def aur.B3:List Nat:=[0,0,0,0,0,24,57,123,255,511]
theorem aur.Rh:eB .any (opsOf Try.f41 3)=aur.T3:=by kernel_rfl
theorem aur.NK:ie aur.T3.2 aur.B3=true:=by kernel_rfl
theorem aur.calls (k : Nat) (A0 : Option Addr) (c0 : Nat) (l0 : List Int) (r1 : Int) (r2 : Int) (r3 : List (List Int)) (r4 : List Int) (r5 : List Int) (w : World) (bX : Kd.C (Kd.int .u8) w A0 l0.length l0) (hc0 : l0.length ≤ c0) (h : aur.f k l0 = some (r1, r2, r3, r4, r5)) :
  Calls Try.prog 41 #[.slice A0 l0.length c0] w fun e w'=>∃ ql qW Lu:Value,e=.returned (.tuple #[.int .i64 r1,.agg #[.int .i64 r2,ql],qW,Lu])∧Kd.V (Kd.slice 2 (Kd.int .i64)) 29 w' w.heap.size (fun k_=>(w.heap.size≤k_)∧some k_ ≠ (qW:Value).ownBlock∧some k_ ≠ (Lu:Value).ownBlock) ql r3∧Kd.R (Kd.int .i64) 2 w' w.heap.size (fun k_=>(w.heap.size≤k_)∧some k_ ≠ (Lu:Value).ownBlock) qW r4∧Kd.R (Kd.int .i64) 2 w' w.heap.size (fun k_=>(w.heap.size≤k_)∧some k_ ≠ (qW:Value).ownBlock) Lu r5∧Below w.heap.size w w':=by
 have gV:=Try.underlying26
 have dh:=k0 bX
 have gG:=k0 hc0
 clear bX hc0
 have HB:=k0 (Below.refl w.heap.size w)
 unfold aur.f at h
 have H:=h
 clear h
 replace H:=bS H;obtain ⟨⟨t102,t103,t104⟩,A2,H⟩:=H
 dsimp only at H
 replace H:=bS H;obtain ⟨⟨t106,t107,t108,t111,t114,t115⟩,A3,H⟩:=H
 dsimp only at H
 replace H:=bS H;obtain ⟨⟨t117,t120,t121⟩,A4,H⟩:=H
 dsimp only at H
 simp only [Option.some.injEq,Prod.mk.injEq] at H
 obtain ⟨rfl,rfl,rfl,rfl,rfl⟩:=H
 go_enter Try.func41,Try.ntmps41
 try go_wp2_with (first|(refine aX (N:=3) rfl ?_;refine dL 3 #[.int .i64 0,.slice none 0 0] 26 bl ?_;intro ay w5 aa bn HB;have cG:=bn)|(refine aT (f:=47) rfl ?_;refine gC (some 11) Try.func47 #[.slice A0 l0.length c0] ?_;(with_reducible refine (je.calls k _ _ l0 t102 t103 t104 w _ ?av ?ax ?bM A2.z).mono ?_);(case av=>exact aL HB.z);(case ax=>exact dh.z);(case bM=>exact gG.z);rintro e w6 ⟨g105,rfl,hi,hb,hU⟩;refine ⟨_,rfl,?_⟩;replace HB:=k0 hb;have bJ:=k0 hi;have auG:=k0 (ag.avj hi (ck (aB aa.z) hU) (by decide));have qy:=k0 (Ne.symm (ag.avj hi (ck (aB aa.z) hU) (by decide)));replace aa:=kB aa hU)|(refine aT (f:=75) rfl ?_;refine gC (some 14) Try.func75 #[.pointer (some ⟨g105,0,none⟩)] ?_;(with_reducible refine (iJ.calls k g105 t102 t103 t104 t106 t107 t108 t111 t114 t115 w _ ?av ?ax A3.z).mono ?_);(case av=>exact aA bJ.z);(case ax=>exact aG (ag.ge bJ.z) HB.z);rintro e w7 ⟨Lq,cA,rfl,as2,k8,hi,hb,hk⟩;refine ⟨_,rfl,?_⟩;have fk:=k0 (Kd.vR (Kd.bf (ok':=fun k_=>(w.heap.size≤k_)∧some k_ ≠ (cA:Value).ownBlock∧k_ ≠ ay∧k_ ≠ g105) as2 (fun k_ aU=>⟨(Nat.le_trans (as8 (aG (ag.ge bJ.z) HB.z)) aU.1),aU.2,(Kd.qK (aB aa.z) k_ aU.1),(ag.fresh (aA bJ.z) k_ aU.1)⟩)) (as8 (aG (ag.ge bJ.z) HB.z)));replace aa:=kK hk aa qy;have eg:=k0 (Kd.cg (Kd.rY (M:=fun k_=>(w.heap.size≤k_)) (Kd.aH (ok':=fun k_=>True) k8 (fun _ aU=>trivial)) (as8 (aG (ag.ge bJ.z) HB.z)) (fun k_ h_=>h_)) (as8 (aG (ag.ge bJ.z) HB.z)));replace HB:=k0 hb;replace bJ:=k0 hi)|(refine aX (N:=8) rfl ?_;refine eJ 8 #[.int .i64 0,.slice none 0 0] 26 ?_;intro cl hg w8 aY hb;replace fk:=atZ fk hg hb;replace eg:=eI eg hb;have fT:=k0 aY;have Sm:=k0 ((by rw [hg];exact (as8 (aG (ag.ge bJ.z) HB.z)):w.heap.size≤cl));have Sk:=k0 ((by rw [hg];exact (as8 (aG (ag.ge bJ.z) HB.z)):w.heap.size≤cl));replace HB:=k0 (cu (aG (ag.ge bJ.z) HB.z) hb);have vI:=nL hg aa;have lU:=nG vI;replace aa:=kB aa hb;have Te:=k0 ((by rw [hg];exact Nat.ne_of_lt (ag.lt (show ag w _ g105 t102 t114 t115 from aA bJ.z)):g105 ≠ cl));have Ac:=k0 ((by rw [hg];exact Nat.ne_of_gt (ag.lt (show ag w _ g105 t102 t114 t115 from aA bJ.z)):cl ≠ g105));replace bJ:=k0 (ag.below (aA bJ.z) hb);clear hb aY hg;obtain ⟨_,_⟩:=nE lU;obtain ⟨_,_⟩:=nE Ac;obtain ⟨_,_,_,_⟩:=as9 fT;obtain ⟨nt,mZ,rfl⟩:=Kd.auA fk.z))
 have fC:af (Kd.V (Kd.slice 2 (Kd.int .i64)) 29 ((w8.setCell ⟨cl,0,none⟩ (.int .i64 t107)).setCell ⟨cl,1,none⟩ (.slice nt t108.length mZ)) w.heap.size (fun k_=>(w.heap.size≤k_)∧some k_ ≠ (cA:Value).ownBlock∧k_ ≠ ay∧k_ ≠ g105∧k_ ≠ cl) (.slice nt t108.length mZ) t108):=⟨aV (Kd.bf (Kd.iO (p:=⟨cl,1,none⟩) (Kd.iO (p:=⟨cl,0,none⟩) (Kd.bf fk.z (fun k_ hk=>(⟨hk,hk.2⟩:_∧k_ ≠ cl))) (fun _ hk=>hk.2) (.int .i64 t107)) (fun _ hk=>hk.2) (.slice nt t108.length mZ)) (fun _ hk=>⟨hk.1.1.1,⟨hk.1.1.2.1,⟨hk.1.1.2.2.1,⟨hk.1.1.2.2.2,hk.1.2⟩⟩⟩⟩))⟩
 have fD:af (Kd.R (Kd.int .i64) 2 ((w8.setCell ⟨cl,0,none⟩ (.int .i64 t107)).setCell ⟨cl,1,none⟩ (.slice nt t108.length mZ)) w.heap.size (fun k_=>(w.heap.size≤k_)) cA t111):=⟨aR (Kd.aH (gR 1 (.slice nt t108.length mZ) (gR 0 (.int .i64 t107) (tR eg fT))) (fun _ hk=>hk.1.1))⟩
 have gN:af (((w8.setCell ⟨cl,0,none⟩ (.int .i64 t107)).setCell ⟨cl,1,none⟩ (.slice nt t108.length mZ)).heap[ay]?=some (.cells #[.int .i64 0,.slice none 0 0] 26 (0,0))):=⟨kZ⟩
 have jb:af (((w8.setCell ⟨cl,0,none⟩ (.int .i64 t107)).setCell ⟨cl,1,none⟩ (.slice nt t108.length mZ)).heap[cl]?=some (sO t107 nt t108 mZ 26)):=⟨kZ⟩
 have kn:af (ag w ((w8.setCell ⟨cl,0,none⟩ (.int .i64 t107)).setCell ⟨cl,1,none⟩ (.slice nt t108.length mZ)) g105 t102 t114 t115):=⟨aA bJ.z⟩
 have aua:af (Below w.heap.size w ((w8.setCell ⟨cl,0,none⟩ (.int .i64 t107)).setCell ⟨cl,1,none⟩ (.slice nt t108.length mZ))):=⟨aG (ag.ge bJ.z) HB.z⟩
 generalize ((w8.setCell ⟨cl,0,none⟩ (.int .i64 t107)).setCell ⟨cl,1,none⟩ (.slice nt t108.length mZ))=rK at fC fD gN jb kn aua ⊢
 have fk:=fC
 have eg:=fD
 have aa:=gN
 have fT:=jb
 have bJ:=kn
 have HB:=aua
 clear fC fD gN jb kn aua
 replace fk:=k0 (Kd.vQ fk.z);replace eg:=k0 (Kd.di eg.z);replace aa:=k0 (dg aa.z);replace fT:=k0 (dg fT.z);replace bJ:=k0 (ag.drew bJ.z);replace HB:=k0 (eZ HB.z)
 refine atG (n:=10) (S:=fun w'=>w'.cell? ⟨cl,0,none⟩=some (.int .i64 t107)∧w'.cell? ⟨cl,1,none⟩=some (.slice nt t108.length mZ)) (ds:=[]) (ba 10 0) (by kernel_rfl) rfl rfl ⟨dU fT,ej fT⟩ (fun hHeld=>?_);refine jX aur.Rh aur.NK (fun aj bP=>?_)
 generalize rK.drew=vk at fk eg aa fT bJ HB hHeld ⊢
 refine pu 0 (some 18) (ba 10 1) aj (h:=?_)
 refine pu 2 (some 20) (ba 10 5) aj (h:=?_)
 refine pu 3 (some 21) (ba 10 13) aj (h:=?_)
 refine t_ 1 (some 19) (ba 10 15) aj bP hHeld (h:=?_)
 refine t_ 4 (some 22) (ba 10 31) aj bP hHeld (h:=?_)
 refine atw (i:=5) (N:=some 23) (ba 10 63) rfl rfl (atq aj.out (by kernel_rfl)) (by decide) (fun K hK=>?_)
 refine mI Try.func93 (by kernel_rfl) rfl #[.pointer (some ⟨g105,0,none⟩),.agg #[.int .i64 t107,.slice nt t108.length mZ]] (by rfl) rfl rfl gm ?_
 with_reducible refine (cO.calls k g105 t102 t114 t115 t107 _ _ t108 t117 t120 t121 w _ ?av ?ax ?bM ?bT A4.z).mono ?_
 (case av=>exact aA bJ.z)
 (case ax=>exact aG (ag.ge bJ.z) HB.z)
 (case bM=>exact Kd.aao (base:=0) (e:=0) (Kd.bf (ok:=fun k_=>(((w.heap.size≤k_))∧(some k_ ≠ (cA:Value).ownBlock∧(k_ ≠ ay∧(k_ ≠ g105∧k_ ≠ cl))))) (aV fk.z) (fun k_ aU=>(⟨aU,aU.2.2.2.1⟩:_∧k_ ≠ g105))) (fun _ h_=>h_.2))
 (case bT=>exact (Kd.gT fk.z).2.1)
 rintro e sF ⟨Zs,rfl,as2,hi,hb,hk⟩
 refine ⟨_,rfl,?_⟩
 replace aa:=kK hk aa qy;replace fk:=k0 (Kd.bf (Kd.avo (Kd.acV (Kd.bf (ok:=fun k_=>(((w.heap.size≤k_))∧(some k_ ≠ (cA:Value).ownBlock∧(k_ ≠ ay∧(k_ ≠ g105∧k_ ≠ cl))))) (aV fk.z) (fun k_ aU=>(⟨aU,aU.2.2.2.1⟩:_∧k_ ≠ g105))) hk) (Kd.bh as2)) (fun _ h_=>h_.1));replace fT:=kK hk fT Ac;have Jg:=k0 (Kd.cg (Kd.cU (Kd.rY (M:=fun k_=>(w.heap.size≤k_)) as2 (as8 (aG (ag.ge bJ.z) HB.z)) (fun k_ h_=>h_)) (Kd.bV (aR eg.z))) (as8 (aG (ag.ge bJ.z) HB.z)));replace eg:=k0 (Kd.aH (Kd.yR (Kd.acE (ag.apart (show ag w _ g105 t102 t114 t115 from aA bJ.z) (aR eg.z) (by decide)) hk) (Kd.bh as2)) (fun _ h_=>h_.1));replace HB:=k0 hb;replace bJ:=k0 hi
 refine hK.out _ _ ⟨dU fT,ej fT⟩ (fun hHeld=>?_)
 clear hK K
 refine hJ (a':=?_) ?_ ?_
 rotate_left;· show Act.put _ (some 23) _=_;simp only [Act.put,zI,zZ,zS,bp,bH];rfl
 refine pu 6 (some 2) (ba 10 127) aj (h:=?_)
 refine atw (i:=7) (N:=none) (ba 10 255) rfl rfl (atq aj.out (by kernel_rfl)) (by decide) (fun K hK=>?_)
 obtain ⟨_,_⟩:=uD aa
 have ara:=lU.z
 have aqs:=vI.z
 have aru:=ej aa
 have apB:=bF aa 1
 have arb:=lU.z
 have aqt:=vI.z
 refine lf (w1:=?_) (by rfl) rfl ?_ ?_
 rotate_left;· go_simp;rfl
 refine hK.out _ _ ⟨((cell_far (p:=⟨ay,_,none⟩) lU.z _).trans (((cell_far (p:=⟨ay,_,none⟩) lU.z _).trans (hHeld.1)))),((cell_far (p:=⟨ay,_,none⟩) lU.z _).trans (((cell_far (p:=⟨ay,_,none⟩) lU.z _).trans (hHeld.2))))⟩ (fun hHeld=>?_)
 clear hK K
 refine pu 8 (some 4) (ba 10 511) aj (h:=?_)
 refine pu 9 (some 5) (ba 10 1023) aj (h:=?_)
 refine gY (jU aj.out (by kernel_rfl)) ?_
 try go_wp2
 refine bodyPost_ret (zu (rs:=[.tmp 2,.cell 3 26,.tmp 4,.tmp 5]) rfl (by simp) (.tmp (.cell ay 26 #[.int .i64 t107,.slice nt t108.length mZ] (0,0) _ rfl kZ Try.underlying26 rfl (by kernel_rfl) (.tmp (.tmp .nil))))) rfl ?_
 exact ⟨_,_,_,eR,aV (Kd.bf (Kd.iO (p:=⟨ay,1,none⟩) (Kd.iO (p:=⟨ay,0,none⟩) (Kd.bf fk.z (fun k_ hk=>(⟨hk,hk.1.2.2.1⟩:_∧k_ ≠ ay))) (fun _ hk=>hk.2) (.int .i64 t107)) (fun _ hk=>hk.2) (.slice nt t108.length mZ)) (fun _ hk=>⟨hk.1.1.1,⟨hk.1.1.2.1,hk.1.2⟩⟩)),aR (Kd.aH (gR 1 (.slice nt t108.length mZ) (gR 0 (.int .i64 t107) (tR eg aa))) (fun _ hk=>⟨hk.1.1,hk.1.2⟩)),aR (Kd.aH (gR 1 (.slice nt t108.length mZ) (gR 0 (.int .i64 t107) (tR Jg aa))) (fun _ hk=>⟨hk.1.1.1,hk.1.2⟩)),aG (ag.ge bJ.z) HB.z⟩
/-! ### F60: function 60 -/
def Co (m:Int) (x:Int):Bool:=!(decide (0≤x) && decide (x≤m))
theorem ac8 (b : Nat) (a : Int) (A : Option Addr) (c : Nat) (l : List (List Int)) (x : Int) (w1 : World) (h0 : w1.cell? ⟨b, 0, none⟩ = some (.int .i64 a)) (h1 : w1.cell? ⟨b, 1, none⟩ = some (.slice A l.length c)) (hr : Kd.C (Kd.slice 2 (Kd.int .i64)) w1 A l.length l) (hc : l.length ≤ c) :
  Calls Try.prog 110 #[.int .i64 x,.pointer (some ⟨b,0,none⟩)] w1 fun e w'=>e=.returned (.bool (Co (wrap64 (wrap64 (2 * (l.length:Int)) - 1)) x))∧Below w1.heap.size w1 w':=by
 have HR:=k0 hr
 clear hr
 have hs:q4.f a l=some (l.length:Int):=rfl
 have HS:=fun W (hw:Below w1.heap.size w1 W)=>q4.calls a A c l _ W (Kd.bL HR.z hw) hc hs
 have Jn:=k0 HS
 clear HS hs
 have h:fU.f x 0 (wrap64 (wrap64 (2 * (l.length:Int)) - 1))=some (decide (0≤x) && decide (x≤wrap64 (wrap64 (2 * (l.length:Int)) - 1))):=by
  unfold fU.f
  by_cases h1:0≤x<;>simp [h1]
 have HX:af (Co (wrap64 (wrap64 (2 * (l.length:Int)) - 1)) x=!(decide (0≤x) && decide (x≤wrap64 (wrap64 (2 * (l.length:Int)) - 1)))):=⟨rfl⟩
 generalize (decide (0≤x) && decide (x≤wrap64 (wrap64 (2 * (l.length:Int)) - 1)))=bb at h HX
 have HW:=k0 h
 clear h
 go_enter Try.func110,Try.ntmps110
 go_wp2_with (first|(go_at_call 64;refine (Jn.out _ (Below.refl _ _)).mono ?_;rintro e w2 ⟨rfl,fo⟩;have dF:=k0 fo;clear fo)|(go_at_call 85;refine (fU.calls _ _ _ bb _ HW.z).mono ?_;rintro e w_ ⟨rfl,⟨CY,rfl⟩⟩))
 go_ret
 exact ⟨by rw [HX.z];rfl,atz dF.z _⟩
theorem ac7 (p : Int → Bool) (b : Nat) (A : Option Addr) (c : Nat) (l : List Int) (w : World) (hr : Kd.C (Kd.int .i64) w A l.length l)
 (hp:∀ x w1,Below w.heap.size w w1→Calls Try.prog 110 #[.int .i64 x,.pointer (some ⟨b,0,none⟩)] w1 fun e w'=>e=.returned (.bool (p x))∧Below w1.heap.size w1 w') :
 Calls Try.prog 130 #[.slice A l.length c,.func (.func 110) #[] #[.pointer (some ⟨b,0,none⟩)]] w fun e w'=>e=.returned (.int .i64 (l_ p l 0))∧Below w.heap.size w w':=by
 have HR:=k0 hr
 have HP:=k0 hp
 have hlen:l.length≤9223372036854775807:=hr.2.1
 clear hr hp
 go_enter Try.func130,Try.ntmps130
 go_wp2_with fail
 go_loopw [8] (fun i wr=>∃ k:Nat,k≤l.length∧i=.int .i64 k∧af (l_ p (l.drop k) k=l_ p l 0)∧af (Below w.heap.size w wr)) (fun i _=>l.length - (intOf i).toNat)
 case atStart=>exact ⟨0,Nat.zero_le _,rfl,⟨by simp⟩,⟨Below.refl _ _⟩⟩
 case round =>
  obtain ⟨k,hk,rfl,HI,HB⟩:=hrel
  by_cases hlt:k < l.length
  case neg =>
   have HD:af (l_ p l 0=-1):=⟨by rw [← HI.z,List.drop_of_length_le (by omega)];rfl⟩
   have hb:decide (k < l.length)=false:=by simp;omega
   go_wp2
   go_ret
   exact ⟨by rw [HD.out];rfl,HB.z⟩
  obtain ⟨ad,e,hcell⟩:=Kd.bK (Kd.bL HR.z HB.z) k (by omega) (by omega)
  cases e
  rw [Int.toNat_natCast] at hcell
  cases hpx:p (rd l k) with
  | true =>
   have HD:af (l_ p l 0=k):=⟨by rw [← HI.z,KI p l k hlt,hpx];rfl⟩
   have HX:=k0 hpx
   clear hpx
   go_wp2_with (go_at_call 110;refine (HP.out _ _ HB.z).mono ?_;rw [HX.z];rintro e w' ⟨rfl,fo⟩;have dF:=k0 (cu HB.z fo);clear fo)
   go_ret
   exact ⟨by rw [HD.out];rfl,dF.z⟩
  | false =>
   have HD:af (l_ p (l.drop (k+1)) (k+1)=l_ p l 0):=⟨by rw [← HI.z,KI p l k hlt,hpx];rfl⟩
   have HX:=k0 hpx
   clear hpx
   go_wp2_with (go_at_call 110;refine (HP.out _ _ HB.z).mono ?_;rw [HX.z];rintro e w' ⟨rfl,fo⟩;have dF:=k0 (cu HB.z fo);clear fo)
   go_roundw
   case rel=>exact ⟨k+1,by omega,by go_num,HD,dF⟩
   case measure=>simp [intOf];omega
theorem ac6 (p : Int → Bool) (b : Nat) (A : Option Addr) (c : Nat) (l : List Int) (w : World) (hr : Kd.C (Kd.int .i64) w A l.length l)
 (hp:∀ x w1,Below w.heap.size w w1→Calls Try.prog 110 #[.int .i64 x,.pointer (some ⟨b,0,none⟩)] w1 fun e w'=>e=.returned (.bool (p x))∧Below w1.heap.size w1 w') :
 Calls Try.prog 109 #[.slice A l.length c,.func (.func 110) #[] #[.pointer (some ⟨b,0,none⟩)]] w fun e w'=>e=.returned (.bool (l.any p))∧Below w.heap.size w w':=by
 have HC:=ac7 p b A c l w hr hp
 have HX:af (l.any p=decide (0≤l_ p l 0)):=⟨(Ye p l 0).symm⟩
 have yD:=k0 HC
 clear HC hr hp
 go_enter Try.func109,Try.ntmps109
 go_wp2_with (go_at_call 130;refine yD.z.mono ?_;rintro e w' ⟨rfl,fo⟩;have dF:=k0 fo;clear fo)
 go_ret
 exact ⟨by rw [HX.z];rfl,dF.z⟩
def Fy.f (as0:Int) (ak:List (List Int)) (l1:List Int):Option Bool:=some (!(l1.any (Co (wrap64 (wrap64 (2 * (ak.length:Int)) - 1)))))
theorem Fy.calls (as0 : Int) (bu : Option Addr) (bq : Nat) (ak : List (List Int)) (A1 : Option Addr) (c1 : Nat) (l1 : List Int) (r : Bool) (w : World) (dy : Kd.C (Kd.slice 2 (Kd.int .i64)) w bu ak.length ak) (ey : ak.length ≤ bq) (gl : Kd.C (Kd.int .i64) w A1 l1.length l1) (iQ : l1.length ≤ c1) (h : Fy.f as0 ak l1 = some r) :
  Calls Try.prog 60 #[.agg #[.int .i64 as0,.slice bu ak.length bq],.slice A1 l1.length c1] w fun e w'=>e=.returned (.bool r)∧Below w.heap.size w w':=by
 have dh:=k0 dy
 have HR:=k0 gl
 clear dy gl
 obtain rfl:=Option.some.inj h
 clear h
 have HC : ∀ W, Below w.heap.size w W → W.cell? ⟨w.heap.size, 0, none⟩ = some (.int .i64 as0) → W.cell? ⟨w.heap.size, 1, none⟩ = some (.slice bu ak.length bq) → w.heap.size < W.heap.size → _ := fun W hw q0 q1 hz => ac6 (Co (wrap64 (wrap64 (2 * (ak.length : Int)) - 1))) w.heap.size A1 c1 l1 W (Kd.bL HR.z hw)
  (fun x w1 hb=>ac8 w.heap.size as0 bu bq ak x w1 ((hb.cell (p:=⟨w.heap.size,0,none⟩) hz).trans q0) ((hb.cell (p:=⟨w.heap.size,1,none⟩) hz).trans q1) (Kd.bL dh.z (cu hw hb)) ey)
 have yD:=k0 HC
 clear HC
 generalize Co (wrap64 (wrap64 (2 * (ak.length:Int)) - 1))=pb at yD ⊢
 go_enter Try.func60,Try.ntmps60
 go_wp2_with (go_at_call 109;refine (yD.z _ (by repeat (first|exact Below.refl _ _|apply eH)) (by go_simp) (by go_simp) (by simp)).mono ?_;rintro e w' ⟨rfl,fo⟩;have dF:=k0 (cu ((Below.refl _ _).alloc (Nat.le_refl _) _) fo);clear fo)
 go_ret
 exact ⟨by first|rfl|(simp;done),dF.z⟩
/-! ### F94: function 94 -/
def au_.f (k:Nat) (as0:Int) (ak:List (List Int)) (a1:Int) (kC:Int) (iD:List (List Int)) (l3:List Int) (l4:List Int):Option Int :=
 (kQ.f k as0 ak).bind fun b=>if b=true then ((mC.f k a1).bind fun q0=>if q0=true then ((vz.f kC iD a1 l3).bind fun q1=>if q1=true then (if ((decide ((l4.length:Int)≤20)))=true then ((Fy.f kC iD l4).bind fun q3=>if q3=true then some 0 else some 2) else some 2) else some 2) else some 2) else some 1
theorem au_.calls {b1 : Nat} {b2 : Nat} {b3 : Nat} {b4 : Nat} (k : Nat) (as0 : Int) (bu : Option Addr) (bq : Nat) (ak : List (List Int)) (a1 : Int) (kC : Int) (nV : Option Addr) (ox : Nat) (iD : List (List Int)) (A3 : Option Addr) (c3 : Nat) (l3 : List Int) (A4 : Option Addr) (c4 : Nat) (l4 : List Int) (r : Int) (w : World) (dy : Kd.C (Kd.slice 2 (Kd.int .i64)) w bu ak.length ak) (ey : ak.length ≤ bq) (AV : Kd.C (Kd.slice 2 (Kd.int .i64)) w nV iD.length iD) (EC : iD.length ≤ ox) (sy : Kd.C (Kd.int .i64) w A3 l3.length l3) (v_ : l3.length ≤ c3) (XW : Kd.C (Kd.int .i64) w A4 l4.length l4) (hc4 : l4.length ≤ c4) (i_ : w.heap[b1]? = some (.cells #[.int .i64 a1] 2 (0, 0))) (hU : w.heap[b2]? = some (sO kC nV iD ox 26)) (auP : w.heap[b3]? = some (.cells #[.slice A3 l3.length c3] 29 (0, 0))) (CC : w.heap[b4]? = some (.cells #[.slice A4 l4.length c4] 29 (0, 0))) (h : au_.f k as0 ak a1 kC iD l3 l4 = some r) :
  Calls Try.prog 62 #[.agg #[.int .i64 as0,.slice bu ak.length bq],.func (.func 94) #[] #[.pointer (some ⟨b1,0,none⟩),.pointer (some ⟨b2,0,none⟩),.pointer (some ⟨b3,0,none⟩),.pointer (some ⟨b4,0,none⟩)]] w fun e w'=>e=.returned (.int .i64 r)∧Below w.heap.size w w':=by
 have dh:=k0 dy
 clear dy
 have iX:=k0 AV
 clear AV
 have uj:=k0 sy
 clear sy
 have HR4:=k0 XW
 clear XW
 have nW:=k0 i_
 have L8:=lX i_
 clear i_
 have iU:=k0 hU
 have L9:=lX hU
 clear hU
 have aup:=k0 auP
 have Se:=lX auP
 clear auP
 have vv:=k0 CC
 have BZ4:=lX CC
 clear CC
 unfold au_.f at h
 obtain ⟨b,hb,h⟩:=Option.bind_eq_some_iff.mp h
 have HG:=fun W (hw:Below w.heap.size w W)=>kQ.calls k as0 bu bq ak b W (Kd.bL dh.z hw) ey hb
 have BS:=k0 HG
 clear HG hb
 cases b
 case' true =>
  simp only [if_true] at h
  obtain ⟨q0,wE,h⟩:=Option.bind_eq_some_iff.mp h
  have sZ:=fun W (hw:Below w.heap.size w W)=>mC.calls k (a1) q0 W  wE
  have BV:=k0 sZ
  clear sZ wE
  cases q0
  case' true =>
   simp only [if_true] at h
   obtain ⟨q1,rG,h⟩:=Option.bind_eq_some_iff.mp h
   have vE:=fun W (hw:Below w.heap.size w W)=>vz.calls kC nV ox iD (a1) A3 c3 l3 q1 W (Kd.bL iX.z hw) EC (Kd.bL uj.z hw) v_ rG
   have BW:=k0 vE
   clear vE rG
   cases q1
   case' true =>
    simp only [if_true] at h
    cases UK:((decide ((l4.length:Int)≤20)))
    case' true =>
     rw [UK] at h
     simp only [if_true] at h
     obtain ⟨q3,PE,h⟩:=Option.bind_eq_some_iff.mp h
     have SV:=fun W (hw:Below w.heap.size w W)=>Fy.calls kC nV ox iD A4 c4 l4 q3 W (Kd.bL iX.z hw) EC (Kd.bL HR4.z hw) hc4 PE
     have abp:=k0 SV
     clear SV PE
     cases q3
     case' true =>
      simp only [if_true] at h
 all_goals
  try rw [UK] at h
  simp only [Bool.false_eq_true,if_false,Option.some.injEq] at h
  subst h
  go_enter Try.func62,Try.ntmps62
  go_wp2_with (first|(go_at_call 66;refine (BS.out _ (by repeat (first|exact Below.refl _ _|apply eH|apply atz))).mono ?_;rintro e w1 ⟨rfl,i_⟩;have dw:=k0 (cu (by repeat (first|exact Below.refl _ _|apply eH|apply atz)) i_:Below w.heap.size w w1);clear i_;have Pg:w1.cell? ⟨b1,0,none⟩=some (.int .i64 a1):=(dY (ck nW.z dw.z) 0).trans rfl;have Pr:=fA (ck nW.z dw.z) 0;have Ph:w1.cell? ⟨b2,0,none⟩=some (.int .i64 kC):=(dY (ck iU.z dw.z) 0).trans rfl;have Pt:=fA (ck iU.z dw.z) 0;have WJ:w1.cell? ⟨b2,1,none⟩=some (.slice nV iD.length ox):=(dY (ck iU.z dw.z) 1).trans rfl;have WZ:=fA (ck iU.z dw.z) 1;have WK:w1.cell? ⟨b3,0,none⟩=some (.slice A3 l3.length c3):=(dY (ck aup.z dw.z) 0).trans rfl;have avY:=fA (ck aup.z dw.z) 0;have agQ:w1.cell? ⟨b4,0,none⟩=some (.slice A4 l4.length c4):=(dY (ck vv.z dw.z) 0).trans rfl;have ag4:=fA (ck vv.z dw.z) 0)|(go_at_call 77;refine (BV.out _ (by repeat (first|exact dw.z|apply eH|apply atz))).mono ?_;rintro e w_ ⟨rfl,⟨CY,rfl⟩⟩)|(go_at_call 78;refine (BW.out _ (by repeat (first|exact dw.z|apply eH|apply atz))).mono ?_;rintro e w2 ⟨rfl,fo⟩;have dF:=k0 (cu (by repeat (first|exact dw.z|apply eH|apply atz)) fo:Below w.heap.size w w2);clear fo;have WL:w2.cell? ⟨b1,0,none⟩=some (.int .i64 a1):=(dY (ck nW.z dF.z) 0).trans rfl;have avZ:=fA (ck nW.z dF.z) 0;have WM:w2.cell? ⟨b2,0,none⟩=some (.int .i64 kC):=(dY (ck iU.z dF.z) 0).trans rfl;have av0:=fA (ck iU.z dF.z) 0;have WN:w2.cell? ⟨b2,1,none⟩=some (.slice nV iD.length ox):=(dY (ck iU.z dF.z) 1).trans rfl;have W3:=fA (ck iU.z dF.z) 1;have WO:w2.cell? ⟨b3,0,none⟩=some (.slice A3 l3.length c3):=(dY (ck aup.z dF.z) 0).trans rfl;have W4:=fA (ck aup.z dF.z) 0;have agR:w2.cell? ⟨b4,0,none⟩=some (.slice A4 l4.length c4):=(dY (ck vv.z dF.z) 0).trans rfl;have ag5:=fA (ck vv.z dF.z) 0)|(go_at_call 60;refine (abp.out _ (by repeat (first|exact dF.z|exact dw.z|apply eH|apply atz))).mono ?_;rintro e w3 ⟨rfl,fo⟩;have sQ:=k0 (cu (by repeat (first|exact dF.z|exact dw.z|apply eH|apply atz)) fo:Below w.heap.size w w3);clear fo;have apq:w3.cell? ⟨b1,0,none⟩=some (.int .i64 a1):=(dY (ck nW.z sQ.z) 0).trans rfl;have ap5:=fA (ck nW.z sQ.z) 0;have apr:w3.cell? ⟨b2,0,none⟩=some (.int .i64 kC):=(dY (ck iU.z sQ.z) 0).trans rfl;have ap6:=fA (ck iU.z sQ.z) 0;have aps:w3.cell? ⟨b2,1,none⟩=some (.slice nV iD.length ox):=(dY (ck iU.z sQ.z) 1).trans rfl;have ap7:=fA (ck iU.z sQ.z) 1;have apt:w3.cell? ⟨b3,0,none⟩=some (.slice A3 l3.length c3):=(dY (ck aup.z sQ.z) 0).trans rfl;have ap8:=fA (ck aup.z sQ.z) 0;have apu:w3.cell? ⟨b4,0,none⟩=some (.slice A4 l4.length c4):=(dY (ck vv.z sQ.z) 0).trans rfl;have ap9:=fA (ck vv.z sQ.z) 0)|go_in)
  go_ret
  exact ⟨rs,by repeat (first|exact sQ.z|exact dF.z|exact dw.z|apply eH|apply atz|apply eZ)⟩
/-! ### F42: function 42 -/
def qu.l0 : Nat → Int → List Int → Int → Int → Int → List Int → Option (Int × Int)
 | 0,_,_,_,_,_,_=>none
 | k+1,atx,oV,mQ,atl,cn,RQ=>if atl < mQ then (if 0≤atl then (if atl < (oV.length:Int) then (if 0≤(rd oV atl) then (if (rd oV atl) < (RQ.length:Int) then (if cn=0 then (none) else (qu.l0 k (Int.tmod (wrap64 (atx * (rd RQ (rd oV atl)))) cn) oV mQ (wrap64 (atl+1)) cn RQ)) else (none)) else (none)) else (none)) else (none)) else (some (atx,0))
def qu.f (k:Nat) (a0:Int) (aE:Int) (az:List (List Int)) (l2:List Int) (l3:List Int):Option (Int × Int):=(au_.f k aE az a0 aE az l2 l3).bind fun t105=>(if t105=0 then (qu.l0 k 1 l3 (l3.length:Int) 0 a0 l2) else (some (0,t105)))
theorem qu.calls (k : Nat) (a0 : Int) (aE : Int) (atb : Option Addr) (atc : Nat) (az : List (List Int)) (A2 : Option Addr) (c2 : Nat) (l2 : List Int) (A3 : Option Addr) (c3 : Nat) (l3 : List Int) (r1 : Int) (r2 : Int) (w : World) (iB : Kd.C (Kd.slice 2 (Kd.int .i64)) w atb az.length az) (iz : az.length ≤ atc) (atQ : Kd.C (Kd.int .i64) w A2 l2.length l2) (at4 : l2.length ≤ c2) (sy : Kd.C (Kd.int .i64) w A3 l3.length l3) (v_ : l3.length ≤ c3) (h : qu.f k a0 aE az l2 l3 = some (r1, r2)) :
  Calls Try.prog 42 #[.int .i64 a0,.agg #[.int .i64 aE,.slice atb az.length atc],.slice A2 l2.length c2,.slice A3 l3.length c3] w fun e w'=>e=.returned (.tuple #[.int .i64 r1,.int .i64 r2])∧Below w.heap.size w w':=by
 have gV:=Try.underlying26
 have ep:=k0 iB
 have eo:=k0 iz
 clear iB iz
 have iX:=k0 atQ
 have atO:=k0 at4
 clear atQ at4
 have uj:=k0 sy
 have avb:=k0 v_
 clear sy v_
 have HB:=k0 (Below.refl w.heap.size w)
 unfold qu.f at h
 have H:=h
 clear h
 replace H:=bS H;obtain ⟨t105,A5,H⟩:=H
 replace H:=iE H;obtain ⟨c6,iP,mY,H⟩|⟨iP,mY,H⟩:=H
 case inl =>
  obtain ⟨rfl,rfl⟩:=mT H
  go_enter Try.func42,Try.ntmps42
  go_wp2_with (first|(refine aX (N:=4) rfl ?_;refine dL 4 #[.int .i64 a0] 2 bl ?_;intro ay Iz aa bn HB;have cG:=bn)|(refine aX (N:=5) rfl ?_;refine eJ 5 #[.int .i64 aE,.slice atb az.length atc] 26 ?_;intro cY hg xo aY hb;have as5:=k0 aY;have j9:=gW hg (as8 bl);have q6:=j9;replace HB:=bW hb;have gh:=nL hg aa;have nx:=nG gh;replace aa:=kB aa hb;clear hb aY hg)|(refine aX (N:=6) rfl ?_;refine eJ 6 #[.slice A2 l2.length c2] 29 ?_;intro nc hg IA aY hb;have cL:=k0 aY;have sP:=gW hg (as8 bl);have BN:=sP;replace HB:=bW hb;have auF:=nL hg aa;replace aa:=kB aa hb;have Ab:=nG auF;have ny:=nL hg as5;replace as5:=kB as5 hb;have yM:=nG ny;clear hb aY hg)|(refine aX (N:=7) rfl ?_;refine eJ 7 #[.slice A3 l3.length c3] 29 ?_;intro pG hg RC aY hb;have atA:=k0 aY;have BO:=gW hg (as8 bl);have I8:=BO;replace HB:=bW hb;have yK:=nL hg aa;replace aa:=kB aa hb;have FN:=nG yK;have vJ:=nL hg as5;replace as5:=kB as5 hb;have FO:=nG vJ;have xQ:=nL hg cL;replace cL:=kB cL hb;have Jq:=nG xQ;clear hb aY hg;have aqN:=nx.z;have aq2:=gh.z;have aqO:=ny.z;have aq3:=yM.z;have aqP:=vJ.z;have aq4:=FO.z;obtain ⟨ao_,apa,apR,apS⟩:=as9 as5)|(go_at_call 62;(with_reducible refine (au_.calls k aE _ _ az a0 aE atb atc az A2 c2 l2 A3 c3 l3 t105 _ ?av ?ax ?bM ?bT ?iG ?rJ ?xd ?xe ?xg ?C6 ?Rb ?Rc A5.z).mono ?_);(case av=>exact aC (Kd.bL ep.z HB.z));(case ax=>exact eo.z);(case bM=>exact aC (Kd.bL ep.z HB.z));(case bT=>exact eo.z);(case iG=>exact aC (Kd.bL iX.z HB.z));(case rJ=>exact atO.z);(case xd=>exact aC (Kd.bL uj.z HB.z));(case xe=>exact avb.z);(case xg=>exact by exact bk);(case C6=>exact by exact bk);(case Rb=>exact by exact bk);(case Rc=>exact by exact bk);rintro e w40 ⟨rfl,hb⟩;replace aa:=kB aa hb;replace as5:=kB as5 hb;replace cL:=kB cL hb;replace atA:=kB atA hb;replace HB:=bW hb))
  go_ret2
  exact ⟨eR,bl⟩
 have H':=k0 H
 clear H
 go_enter Try.func42,Try.ntmps42
 go_wp2_with (first|(refine aX (N:=4) rfl ?_;refine dL 4 #[.int .i64 a0] 2 bl ?_;intro ay w7 aa bn HB;have cG:=bn)|(refine aX (N:=5) rfl ?_;refine eJ 5 #[.int .i64 aE,.slice atb az.length atc] 26 ?_;intro cY hg w8 aY hb;have as5:=k0 aY;have j9:=gW hg (as8 bl);have q6:=j9;replace HB:=bW hb;have gh:=nL hg aa;have nx:=nG gh;replace aa:=kB aa hb;clear hb aY hg)|(refine aX (N:=6) rfl ?_;refine eJ 6 #[.slice A2 l2.length c2] 29 ?_;intro nc hg w9 aY hb;have cL:=k0 aY;have sP:=gW hg (as8 bl);have BN:=sP;replace HB:=bW hb;have auF:=nL hg aa;replace aa:=kB aa hb;have Ab:=nG auF;have ny:=nL hg as5;replace as5:=kB as5 hb;have yM:=nG ny;clear hb aY hg)|(refine aX (N:=7) rfl ?_;refine eJ 7 #[.slice A3 l3.length c3] 29 ?_;intro pG hg pT aY hb;have atA:=k0 aY;have BO:=gW hg (as8 bl);have I8:=BO;replace HB:=bW hb;have yK:=nL hg aa;replace aa:=kB aa hb;have FN:=nG yK;have vJ:=nL hg as5;replace as5:=kB as5 hb;have FO:=nG vJ;have xQ:=nL hg cL;replace cL:=kB cL hb;have Jq:=nG xQ;clear hb aY hg;have aqH:=nx.z;have aqW:=gh.z;have aqI:=ny.z;have aqX:=yM.z;have aqJ:=vJ.z;have aqY:=FO.z;obtain ⟨J9,J',Ka,Kb⟩:=as9 as5)|(go_at_call 62;(with_reducible refine (au_.calls k aE _ _ az a0 aE atb atc az A2 c2 l2 A3 c3 l3 t105 _ ?av ?ax ?bM ?bT ?iG ?rJ ?xd ?xe ?xg ?C6 ?Rb ?Rc A5.z).mono ?_);(case av=>exact aC (Kd.bL ep.z HB.z));(case ax=>exact eo.z);(case bM=>exact aC (Kd.bL ep.z HB.z));(case bT=>exact eo.z);(case iG=>exact aC (Kd.bL iX.z HB.z));(case rJ=>exact atO.z);(case xd=>exact aC (Kd.bL uj.z HB.z));(case xe=>exact avb.z);(case xg=>exact by exact bk);(case C6=>exact by exact bk);(case Rb=>exact by exact bk);(case Rc=>exact by exact bk);rintro e sF ⟨rfl,hb⟩;replace aa:=kB aa hb;replace as5:=kB as5 hb;replace cL:=kB cL hb;replace atA:=kB atA hb;replace HB:=bW hb;have aqK:=FN.z;have aqZ:=yK.z;have aqL:=Jq.z;have aq0:=xQ.z;obtain ⟨ao6,apM⟩:=uD atA))
 go_loopg [11,22] k (fun kq v11 Ir w'=>∃ (yw:Int) (rQ:Int),v11=.int .i64 yw∧Ir=.int .i64 rQ∧af (qu.l0 kq yw l3 (l3.length:Int) rQ a0 l2=some (r1,r2))∧af (kq≤k)∧af (w'.heap[ay]?=some (.cells #[.int .i64 a0] 2 (0,0)))∧af (w'.heap[cY]?=some (sO aE atb az atc 26))∧af (w'.heap[nc]?=some (.cells #[(.slice A2 l2.length c2)] 29 (0,0)))∧af (w'.heap[pG]?=some (.cells #[(.slice A3 l3.length c3)] 29 (0,0)))∧af (Below w.heap.size w w'))
 case atStart=>exact ⟨(1),(0),rs,rs,H',⟨Nat.le_refl _⟩,⟨bk⟩,⟨bk⟩,⟨bk⟩,⟨bk⟩,⟨bl⟩⟩
 case round =>
  clear H'
  obtain ⟨yw,rQ,rfl,rfl,HA,as3,aa,as5,cL,atA,HB⟩:=hrel
  cases gk with
  | zero=>exact absurd HA.z (by simp [qu.l0])
  | succ k1 =>
   have H:=HA.z
   clear HA
   simp only [qu.l0] at H
   replace H:=iC H;obtain ⟨auB,H⟩|⟨auB,H⟩:=H
   case inl =>
    obtain ⟨rfl,rfl⟩:=mT H
    go_wp2
    go_ret2
    exact ⟨eR,bl⟩
   replace H:=iS H;obtain ⟨c20,H⟩:=H
   have au3:=decide_eq_true c20
   clear c20
   replace H:=iS H;obtain ⟨c21,H⟩:=H
   have ow:=decide_eq_true c21
   clear c21
   replace H:=iS H;obtain ⟨c22,H⟩:=H
   have Cd:=decide_eq_true c22
   clear c22
   replace H:=iS H;obtain ⟨c23,H⟩:=H
   have yZ:=decide_eq_true c23
   clear c23
   by_cases c24:a0=0
   case neg =>
    rw [if_neg c24] at H
    have Aq:=beq_eq_false_iff_ne.mpr c24
    have NZ:=bne_iff_ne.mpr c24
    have H':=k0 H
    clear H
    obtain ⟨eL,ee⟩:=iN rQ (l3.length:Int)
    obtain ⟨oq,e106,fY⟩:=Kd.bK uj.z rQ eL ee
    cases e106
    replace fY:=hbc HB fY
    replace eL:=eT eL
    replace ee:=eT ee
    obtain ⟨_,_⟩:=nE Ab
    obtain ⟨_,_⟩:=nE yM
    obtain ⟨_,_⟩:=nE xQ
    obtain ⟨_,_⟩:=uD cL
    have jv:0≤((rd l3 rQ):Int):=oD
    have jw:(rd l3 rQ) < (l2.length:Int):=oD
    obtain ⟨qA,e107,jt⟩:=Kd.bK iX.z (rd l3 rQ) jv jw
    cases e107
    replace jt:=hbc HB jt
    replace jv:=eT jv
    replace jw:=eT jw
    obtain ⟨_,_⟩:=nE gh
    obtain ⟨_,_⟩:=nE yK
    obtain ⟨_,_⟩:=uD aa
    go_wp2
    repeat (go_quiet (fail);try go_wp2)
    go_roundg k1
    case measure=>have:=as3.z;omega
    case rel=>exact ⟨(Int.tmod (wrap64 (yw * (rd l2 (rd l3 rQ)))) a0),(wrap64 (rQ+1)),rs,rs,H',⟨by have:=as3.z;omega⟩,⟨bk⟩,⟨bk⟩,⟨bk⟩,⟨bk⟩,⟨bl⟩⟩
   rw [if_pos c24] at H
   exact absurd H (by simp)
/-! ### F95: function 95 -/
def aus.l0 : Nat → List Int → Int → Int → List (List Int) → Option (Bool)
 | 0,_,_,_,_=>none
 | k+1,x1,x5,cn,cF=>if x5 < (x1.length:Int) then (if 0≤x5 then ((eY.f (rd x1 x5) 0 (wrap64 ((wrap64 (2 * (cF.length:Int))) - 1))).bind fun t103=>(if t103=true then (aus.l0 k x1 (wrap64 (x5+1)) cn cF) else (some false))) else (none)) else (some (decide ((x1.length:Int)≤20)))
def aus.f (k:Nat) (as0:Int) (ak:List (List Int)) (l1:List Int):Option (Bool):=aus.l0 k l1 0 as0 ak
theorem aus.calls (k : Nat) (as0 : Int) (bu : Option Addr) (bq : Nat) (ak : List (List Int)) (A1 : Option Addr) (c1 : Nat) (l1 : List Int) (r : Bool) (w : World) (dy : Kd.C (Kd.slice 2 (Kd.int .i64)) w bu ak.length ak) (ey : ak.length ≤ bq) (gl : Kd.C (Kd.int .i64) w A1 l1.length l1) (iQ : l1.length ≤ c1) (h : aus.f k as0 ak l1 = some r) :
  Calls Try.prog 95 #[.agg #[.int .i64 as0,.slice bu ak.length bq],.slice A1 l1.length c1] w fun e w'=>e=.returned (.bool r)∧Below w.heap.size w w':=by
 have gV:=Try.underlying26
 have dJ:=k0 dy
 have iK:=k0 ey
 clear dy ey
 have iM:=k0 gl
 have yE:=k0 iQ
 clear gl iQ
 have HB:=k0 (Below.refl w.heap.size w)
 unfold aus.f at h
 have H:=h
 clear h
 have H':=k0 H
 clear H
 go_enter Try.func95,Try.ntmps95
 go_wp2_with (first|(refine aX (N:=2) rfl ?_;refine dL 2 #[.int .i64 as0,.slice bu ak.length bq] 26 bl ?_;intro ay w3 aa bn HB;have cG:=bn))
 go_loopg [5] k (fun kq v5 w'=>∃ (aD:Int),v5=.int .i64 aD∧af (aus.l0 kq l1 aD as0 ak=some r)∧af (kq≤k)∧af (w'.heap[ay]?=some (sO as0 bu ak bq 26))∧af (Below w.heap.size w w'))
 case atStart=>exact ⟨(0),rs,H',⟨Nat.le_refl _⟩,⟨bk⟩,⟨bl⟩⟩
 case round =>
  clear H'
  obtain ⟨aD,rfl,HA,as3,aa,HB⟩:=hrel
  cases gk with
  | zero=>exact absurd HA.z (by simp [aus.l0])
  | succ k1 =>
   have H:=HA.z
   clear HA
   simp only [aus.l0] at H
   replace H:=iC H;obtain ⟨gI,H⟩|⟨gI,H⟩:=H
   case inl =>
    obtain rfl:=Option.some.inj H
    go_wp2
    go_ret
    exact ⟨eR,bl⟩
   replace H:=iS H;obtain ⟨c5,H⟩:=H
   have gJ:=decide_eq_true c5
   clear c5
   replace H:=bS H;obtain ⟨t103,A6,H⟩:=H
   cases t103
   case false =>
    replace H:=iF H
    obtain rfl:=Option.some.inj H
    obtain ⟨cW,cX⟩:=iN aD (l1.length:Int)
    obtain ⟨lA,e102,eP⟩:=Kd.bK iM.z aD cW cX
    cases e102
    replace eP:=hbc HB eP
    replace cW:=eT cW
    replace cX:=eT cX
    obtain ⟨_,_,_,_⟩:=as9 aa
    go_wp2_with (first|(go_at_call 61;(with_reducible refine (eY.calls (rd l1 aD) 0 (wrap64 ((wrap64 (2 * (ak.length:Int))) - 1)) false _ A6.z).mono ?_);rintro e w' ⟨rfl,⟨nd,rfl⟩⟩;(try exact dN)))
    repeat (go_quiet (first|(go_at_call 61;(with_reducible refine (eY.calls (rd l1 aD) 0 (wrap64 ((wrap64 (2 * (ak.length:Int))) - 1)) false _ A6.z).mono ?_);rintro e w' ⟨rfl,⟨nd,rfl⟩⟩;(try exact dN)));try go_wp2_with (first|(go_at_call 61;(with_reducible refine (eY.calls (rd l1 aD) 0 (wrap64 ((wrap64 (2 * (ak.length:Int))) - 1)) false _ A6.z).mono ?_);rintro e w' ⟨rfl,⟨nd,rfl⟩⟩;(try exact dN))))
    go_ret
    exact ⟨eR,bl⟩
   replace H:=iT H
   have H':=k0 H
   clear H
   obtain ⟨cW,cX⟩:=iN aD (l1.length:Int)
   obtain ⟨lA,e102,eP⟩:=Kd.bK iM.z aD cW cX
   cases e102
   replace eP:=hbc HB eP
   replace cW:=eT cW
   replace cX:=eT cX
   obtain ⟨_,_,_,_⟩:=as9 aa
   go_wp2_with (first|(go_at_call 61;(with_reducible refine (eY.calls (rd l1 aD) 0 (wrap64 ((wrap64 (2 * (ak.length:Int))) - 1)) true _ A6.z).mono ?_);rintro e w' ⟨rfl,⟨nd,rfl⟩⟩;(try exact dN)))
   repeat (go_quiet (first|(go_at_call 61;(with_reducible refine (eY.calls (rd l1 aD) 0 (wrap64 ((wrap64 (2 * (ak.length:Int))) - 1)) true _ A6.z).mono ?_);rintro e w' ⟨rfl,⟨nd,rfl⟩⟩;(try exact dN)));try go_wp2_with (first|(go_at_call 61;(with_reducible refine (eY.calls (rd l1 aD) 0 (wrap64 ((wrap64 (2 * (ak.length:Int))) - 1)) true _ A6.z).mono ?_);rintro e w' ⟨rfl,⟨nd,rfl⟩⟩;(try exact dN))))
   go_roundg k1
   case measure=>have:=as3.z;omega
   case rel=>exact ⟨(wrap64 (aD+1)),rs,H',⟨by have:=as3.z;omega⟩,⟨bk⟩,⟨bl⟩⟩
end Go.Proofs.Ytapnggjaeehpdaa.B
/- Set with little white space, by a program. -/
