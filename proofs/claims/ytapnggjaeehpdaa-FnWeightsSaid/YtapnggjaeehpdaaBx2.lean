/- Go's calls come to what the Lean functions say. Condition of each: that the Lean function answers. -/
import Derived.Test.YtapnggjaeehpdaaBx0
import Derived.Test.YtapnggjaeehpdaaBx1
namespace Go.Proofs.Ytapnggjaeehpdaa.B
open Go.RowKit Go.Proofs.bz.dI Go.Proofs.bz.iY Go.Proofs.bz.jn
attribute [local go_sem] max2_int min2_int max_two min_two max_three min_three max_four min_four
set_option linter.unusedVariables false
set_option linter.unusedSimpArgs false
/-! ### F126: function 126 -/
def jm.l0 : Nat → Int → Int → List (List Int) → Int → List (List Int) → Option (Int × (List (List Int)))
 | 0,_,_,_,_,_=>none
 | k+1,x4,cn,cF,ZX,RR=>if x4 < (cF.length:Int) then (if 0≤x4 then ((rT.f (ai cF x4)).bind fun t108=>(if RR.length < 5864062014805 then (jm.l0 k (wrap64 (x4+1)) cn cF ZX (RR ++ [t108])) else (none))) else (none)) else (some (ZX,RR))
def jm.f (k:Nat) (as0:Int) (ak:List (List Int)):Option (Int × (List (List Int))):=jm.l0 k 0 as0 ak as0 (([]:List (List Int)))
def jm.T5:Bool × List (List Nat × List Nat):=(true,[([],[]),([0],[0]),([],[]),([2],[2]),([],[]),([3,4],[3,4]),([5],[5]),([6],[6]),([7],[7]),([1,8,7],[1,8]),([0,1,2,3,4,5,6,7,8,9],[]),([10,9,9,0,1,2,3,4,5,6,7,8,9],[9,10])])
def jm.B5:List Nat:=[0,1,0,4,0,28,60,124,252,511,1023,2047]
theorem jm.Bl:eB .any (opsOf Try.f126 5)=jm.T5:=by kernel_rfl
theorem jm.Aj:ie jm.T5.2 jm.B5=true:=by kernel_rfl
set_option maxHeartbeats 8000000 in
set_option maxRecDepth 100000 in
theorem jm.calls (k : Nat) (as0 : Int) (bu : Option Addr) (bq : Nat) (ak : List (List Int)) (r1 : Int) (r2 : List (List Int)) (w : World) (dy : Kd.C (Kd.slice 2 (Kd.int .i64)) w bu ak.length ak) (ey : ak.length ≤ bq) (h : jm.f k as0 ak = some (r1, r2)) :
  Calls Try.prog 126 #[.agg #[.int .i64 as0,.slice bu ak.length bq]] w fun e w'=>∃ nP:Value,e=.returned (.agg #[.int .i64 r1,nP])∧Kd.S (Kd.slice 2 (Kd.int .i64)) 29 w' w.heap.size (fun _=>True) nP r2∧Below w.heap.size w w':=by
 have gV:=Try.underlying26
 have dJ:=k0 dy
 have iK:=k0 ey
 clear dy ey
 have HB:=k0 (Below.refl w.heap.size w)
 unfold jm.f at h
 have H:=h
 clear h
 obtain ⟨xA,vK⟩:=nY (([]:List (List Int)):List (List Int))
 replace H:(jm.l0 k 0 as0 ak as0 xA)=some (r1,r2):=rH vK.z H
 have H':=k0 H
 clear H
 go_enter Try.func126,Try.ntmps126
 go_wp2_with (first|(refine aX (N:=1) rfl ?_;refine dL 1 #[.int .i64 as0,.slice bu ak.length bq] 26 bl ?_;intro ay w2 aa bn HB;have cG:=bn)|(refine aX (N:=2) rfl ?_;refine eJ 2 #[.int .i64 0,.slice none 0 0] 26 ?_;intro cY hg w3 aY hb;have as5:=k0 aY;have j9:=gW hg (as8 bl);have q6:=j9;replace HB:=bW hb;have gh:=nL hg aa;have nx:=nG gh;replace aa:=kB aa hb;clear hb aY hg;obtain ⟨_,_⟩:=nE gh;obtain ⟨_,_,_,_⟩:=as9 aa)|(refine aX (N:=7) rfl ?_;refine Kd.Eb (Kd.slice 2 (Kd.int .i64)) _ 29 ?hg (N:=7) ?hd (xs:=([]:List (List Int))) (inner:=[]) (ok:=fun _=>True) (cm:=fun _=>True) ?hr ?hp (fun _ hk=>hk) trivial (Below.refl _ _) (Nat.le_refl _) (by simp) ?_;(case hd=>rfl);(case hg=>rfl);(case hr=>first|(go_simp;done)|(go_simp;rfl));(case hp=>exact (aJ.none _ _));intro xj w6 p9 hb bR atf;clear bR atf;(first|rw [← vK.z] at p9|(simp only [Int.reduceToNat] at p9;rw [← vK.z] at p9));have jf:=k0 (Kd.jD p9 (as8 bl));replace aa:=kB aa hb;replace as5:=kB as5 hb;replace HB:=bW hb;clear hb p9;obtain ⟨xK,x_,rfl⟩:=Kd.er jf.z)|(refine aX (N:=3) rfl ?_;refine eJ 3 #[.int .i64 0,.slice none 0 0] 26 ?_;intro Ov hg w9 aY hb;replace jf:=nF jf hb;have lQ:=k0 aY;have aaY:=gW hg (as8 bl);have amt:=aaY;replace HB:=bW hb;have Jp:=nL hg aa;replace aa:=kB aa hb;have Tf:=nG Jp;have Td:=nL hg as5;replace as5:=kB as5 hb;have Nn:=nG Td;clear hb aY hg;obtain ⟨_,_⟩:=nE Tf;obtain ⟨_,_⟩:=nE Nn;obtain ⟨_,_,_,_⟩:=as9 lQ))
 go_loopg [4] k (fun kq v4 w'=>∃ (kz:Int) (De:List (List Int)) (u107001:Value),v4=.int .i64 kz∧af (jm.l0 kq kz as0 ak as0 De=some (r1,r2))∧af (kq≤k)∧af (Kd.S (Kd.slice 2 (Kd.int .i64)) 29 w' w.heap.size (fun _=>True) u107001 De)∧af (w'.heap[ay]?=some (sO as0 bu ak bq 26))∧af (w'.heap[cY]?=some (.cells #[.int .i64 0,(.slice none 0 0)] 26 (0,0)))∧af (w'.heap[Ov]?=some (.cells #[.int .i64 as0,u107001] 26 (0,0)))∧af (Below w.heap.size w w'))
 case atStart=>exact ⟨(0),(xA),(.slice xK xA.length x_),rs,H',⟨Nat.le_refl _⟩,⟨aS (Kd.bQ (gS 1 (.slice xK xA.length x_) (gS 0 (.int .i64 as0) (tS jf lQ))) (fun _ hk=>trivial))⟩,⟨kZ⟩,⟨kZ⟩,⟨kZ⟩,⟨bl⟩⟩
 case round =>
  clear H'
  obtain ⟨kz,De,u107001,rfl,HA,as3,auw,aa,as5,lQ,HB⟩:=hrel
  cases gk with
  | zero=>exact absurd HA.z (by simp [jm.l0])
  | succ k1 =>
   have H:=HA.z
   clear HA
   simp only [jm.l0] at H
   replace H:=iC H;obtain ⟨qF,H⟩|⟨qF,H⟩:=H
   case inl =>
    obtain ⟨rfl,rfl⟩:=mT H
    obtain ⟨_,_⟩:=nE gh
    obtain ⟨_,_⟩:=nE Jp
    obtain ⟨_,_,_,_⟩:=as9 aa
    obtain ⟨_,_⟩:=nE Nn
    obtain ⟨_,_,_,_⟩:=as9 lQ
    obtain ⟨_,_,_,_⟩:=as9 as5
    obtain ⟨au',Av,rfl⟩:=Kd.er auw.z
    go_wp2
    refine bodyPost_ret (results_cell_row rfl _ _ cY 26 #[.int .i64 as0,.slice au' De.length Av] (0,0) _ rfl kZ Try.underlying26 rfl (by kernel_rfl)) rfl ?_
    exact ⟨_,eR,aS (Kd.bQ (gS 1 (.slice au' De.length Av) (gS 0 (.int .i64 as0) (tS auw as5))) (fun _ hk=>trivial)),bl⟩
   replace H:=iS H;obtain ⟨c14,H⟩:=H
   have ov:=decide_eq_true c14
   clear c14
   replace H:=bS H;obtain ⟨t108,Dp,H⟩:=H
   replace H:=iS H;obtain ⟨c16,H⟩:=H
   have FL:=k0 c16
   clear c16
   obtain ⟨tY,uo⟩:=nY (De ++ [t108]:List (List Int))
   replace H:(jm.l0 k1 (wrap64 (kz+1)) as0 ak as0 tY)=some (r1,r2):=rH uo.z H
   have H':=k0 H
   clear H
   obtain ⟨_,_⟩:=nE gh
   obtain ⟨_,_⟩:=nE Jp
   obtain ⟨_,_,_,_⟩:=as9 aa
   try go_wp2
   replace auw:=k0 (Kd.dK auw.z);replace aa:=k0 (dg aa.z);replace as5:=k0 (dg as5.z);replace lQ:=k0 (dg lQ.z);replace HB:=k0 (eZ HB.z)
   obtain ⟨jv,jw⟩:=iN kz (ak.length:Int)
   obtain ⟨qA,Fl,Ga,e107,jt,wq,wj⟩:=b8 dJ.z kz jv jw
   have avI:=jt
   cases e107
   replace jt:=hbc HB jt
   have z7:=k0 wj
   have Ja:=k0 wq
   clear wj wq
   replace jv:=eT jv
   replace jw:=eT jw
   refine atG (n:=12) (S:=fun w'=>w'.cell? ⟨Ov,0,none⟩=some (.int .i64 as0)∧w'.cell? ⟨Ov,1,none⟩=some (u107001)∧w'.cell? ⟨ay,0,none⟩=some (.int .i64 as0)∧w'.cell? ⟨ay,1,none⟩=some (.slice (some qA) ak.length bq)∧w'.cell? (qA.add (kz).toNat)=some (.slice Fl (ai ak kz).length Ga)) (ds:=[11]) (ba 12 0) (by kernel_rfl) rfl rfl ⟨dU lQ,ej lQ,dU aa,ej aa,(hbc HB avI)⟩ (fun hHeld=>?_);refine jX jm.Bl jm.Aj (fun aj bP=>?_)
   generalize wr.drew=Iw at auw aa as5 lQ HB z7 jt hHeld ⊢
   refine pu 0 (some 16) (ba 12 1) aj (h:=?_)
   refine pu 2 (some 18) (ba 12 5) aj (h:=?_)
   refine pu 4 (some 20) (ba 12 21) aj (h:=?_)
   refine pV 1 (some 17) (ba 12 23) aj bP hHeld (h:=?_)
   refine pV 3 (some 19) (ba 12 31) aj bP hHeld (h:=?_)
   refine pu 5 (some 21) (ba 12 63) aj (h:=?_)
   refine pV 6 (some 22) (ba 12 127) aj bP hHeld (h:=?_)
   refine atw (i:=7) (N:=some 23) (ba 12 255) rfl rfl (atq aj.out (by kernel_rfl)) (by decide) (fun K hK=>?_)
   refine mI Try.func105 (by kernel_rfl) rfl #[.slice Fl (ai ak kz).length Ga] (by rfl) rfl rfl gm ?_
   with_reducible refine (rT.calls _ _ (ai ak kz) t108 _ ?av ?ax Dp.z).mono ?_
   (case av=>exact aC (Kd.bL z7.z HB.z))
   (case ax=>exact Ja.z)
   rintro e Lw ⟨Lq,rfl,as2,hb⟩
   refine ⟨_,rfl,?_⟩
   replace auw:=kg auw (Kd.bh as2) hb;have fk:=k0 (Kd.cg as2 (as8 bl));replace aa:=kB aa hb;replace as5:=kB as5 hb;replace lQ:=kB lQ hb;replace HB:=bW hb
   obtain ⟨R7,Et,Gr⟩:=Kd.b9 fk.z
   (first|subst Gr|(injection Gr with atu jq fc;have jr:=atu.symm;have js:=fc.symm;clear atu jq fc;subst jr;subst js))
   refine hK.out _ _ ⟨dU lQ,ej lQ,dU aa,ej aa,(hbc HB avI)⟩ (fun hHeld=>?_)
   clear hK K
   refine hJ (a':=?_) ?_ ?_
   rotate_left;· show Act.put _ (some 23) _=_;simp only [Act.put,zI,zZ,zS,bp,bH];rfl
   refine atw (i:=8) (N:=some 24) (ba 12 511) rfl rfl (atq aj.out (by kernel_rfl)) (by decide) (fun K hK=>?_)
   refine Iu (w1:=?_) (v:=?_) (by rfl) rfl ?_ ?_
   rotate_left 2
   ·go_simp
    constructor
    ·rfl
    ·rfl
   refine hK.out _ _ ⟨(dY (atW lQ.z _) 0).trans rfl,(dY (atW lQ.z _) 1).trans rfl,(dY (atW aa.z _) 0).trans rfl,(dY (atW aa.z _) 1).trans rfl,(World.cell?_alloc_lt _ _ _ (World.block_lt_of_cell? _ _ ((hbc HB avI)))).trans ((hbc HB avI))⟩ (fun hHeld=>?_)
   clear hK K
   refine hJ (a':=?_) ?_ ?_
   rotate_left;· show Act.put _ (some 24) _=_;simp only [Act.put,zI,zZ,zS,bp,bH];rfl
   refine atw (i:=9) (N:=some 25) (ba 12 1023) rfl rfl (atq aj.out (by kernel_rfl)) (by decide) (fun K hK=>?_)
   refine Kd.TI (Kd.slice 2 (Kd.int .i64)) (w0:=w) w.heap.size (by rfl) (.tmp 17) (.tmp 24) 24 29 (.slice none 0 0) 24 rfl Try.underlying24 sB rfl (by decide) (by omega) u107001 De t108 [.slice R7 t108.length Et] (fun _=>True) (fun k_=>some k_=(.slice R7 t108.length Et:Value).ownBlock) rfl rfl ?aP (fun k_ aU=>((Kd.aH (ok':=fun k_=>((fun _=>True)) k_∧some k_ ≠ (u107001:Value).ownBlock) (Kd.iZ (fk.z) (Kd.atC auw.z) (by decide)) (fun k_ hk=>⟨trivial,hk.2⟩))).1 k_ aU.symm) ?aF ?aO ?aB ?aS ?aL ?_
   (case aP=>exact Kd.ke (Kd.aH (Kd.om rfl (Kd.aH (ok':=fun k_=>((fun _=>True)) k_∧some k_ ≠ (u107001:Value).ownBlock) (Kd.iZ (fk.z) (Kd.atC auw.z) (by decide)) (fun k_ hk=>⟨trivial,hk.2⟩))) (fun _ h_=>h_)))
   (case aB=>exact bl)
   (case aF=>exact (fun _ _=>trivial))
   (case aO=>exact (aS (Kd.bQ auw.z (fun k_ hk=>⟨trivial,fun e_=>hk.2 e_⟩))))
   (case aS=>exact (as8 bl))
   (case aL=>have:=FL.out;omega)
   intro cA Fe ho hb hg a_
   rw [← uo.z] at ho
   replace aa:=k0 (fL (aB aa.z) hg (Kd.mX auw.z aa.z (by decide)));replace as5:=k0 (fL (aB as5.z) hg (Kd.mX auw.z as5.z (by decide)));replace lQ:=k0 (fL (aB lQ.z) hg (Kd.mX auw.z lQ.z (by decide)));replace HB:=k0 hb;have eg:=k0 ho;clear auw fk
   clear ho hb hg a_
   obtain ⟨R8,UR,Va⟩:=Kd.er eg.z
   (first|subst Va|(injection Va with atu jq fc;have jr:=atu.symm;have js:=fc.symm;clear atu jq fc;subst jr;subst js))
   refine hK.out _ _ ⟨dU lQ,ej lQ,dU aa,ej aa,(hbc HB avI)⟩ (fun hHeld=>?_)
   clear hK K
   refine hJ (a':=?_) ?_ ?_
   rotate_left;· show Act.put _ (some 25) _=_;simp only [Act.put,zI,zZ,zS,bp,bH];rfl
   refine pu 10 (some 26) (ba 12 2047) aj (h:=?_)
   refine oK (i:=11) (N:=none) (ba 12 4095) rfl rfl (atq aj.out (by kernel_rfl)) (by decide) (fun K hK=>?_)
   have arw:=ej lQ
   have apD:=bF lQ 1
   have arf:=Jp.z
   have arh:=Td.z
   have aqw:=Tf.z
   have aqx:=Nn.z
   refine lf (w1:=?_) (by rfl) rfl ?_ ?_
   rotate_left;· go_simp;rfl
   refine hK.out _ _ ?_
   clear hK K
   refine gY (jU aj.out (by kernel_rfl)) ?_
   try go_wp2
   go_roundg k1
   case measure=>have:=as3.z;omega
   case rel=>exact ⟨(wrap64 (kz+1)),(tY),(.slice R8 tY.length UR),rs,H',⟨by have:=as3.z;omega⟩,⟨aS (Kd.bQ (gS 1 (.slice R8 tY.length UR) (tS eg lQ)) (fun _ hk=>trivial))⟩,⟨kZ⟩,⟨kZ⟩,⟨kZ⟩,⟨bl⟩⟩
end Go.Proofs.Ytapnggjaeehpdaa.B
/- Set with little white space, by a program. -/
