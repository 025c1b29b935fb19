/- Go's calls come to what the Lean functions say. Condition of each: that the Lean function answers. -/
import Derived.Test.YtapnggjaeehpdaaBx0
import Derived.Test.YtapnggjaeehpdaaBx8
import Derived.Test.YtapnggjaeehpdaaBx12
import Derived.Test.YtapnggjaeehpdaaBx16
namespace Go.Proofs.Ytapnggjaeehpdaa.B
open Go.RowKit Go.Proofs.bz.dI Go.Proofs.bz.iY Go.Proofs.bz.jn
attribute [local go_sem] max2_int min2_int max_two min_two max_three min_three max_four min_four
set_option linter.unusedVariables false
set_option linter.unusedSimpArgs false
set_option maxHeartbeats 8000000
set_option maxRecDepth 100000
/-! ### F87: function 87 -/
mutual
def fy.l0 : Nat → List (List Int) → List (List Int) → List (List Int) → Int → Int → Option ((List (List Int)))
 | 0,_,_,_,_,_=>none
 | k+1,x1,x5,fu,atj,dQ=>if dQ < atj then (if 0≤dQ then (if dQ < (fu.length:Int) then (fy.l1 k x1 x5 dQ fu atj dQ (ai fu dQ) ((ai fu dQ).length:Int) 0) else (none)) else (none)) else (some x5)
def fy.l1 : Nat → List (List Int) → List (List Int) → Int → List (List Int) → Int → Int → List Int → Int → Int → Option ((List (List Int)))
 | 0,_,_,_,_,_,_,_,_,_=>none
 | k+1,x1,x5,x6,fu,atj,dQ,atl,jz,nr=>if nr < jz then (if 0≤nr then (if nr < (atl.length:Int) then (if (rd atl nr)=0 then (fy.l1 k x1 x5 x6 fu atj dQ atl jz (wrap64 (nr+1))) else (if nr < (x1.length:Int) then (fy.l2 k x1 x5 x6 (rd atl nr) fu atj dQ atl jz nr (ai x1 nr) ((ai x1 nr).length:Int) 0) else (none))) else (none)) else (none)) else (fy.l0 k x1 x5 fu atj (wrap64 (dQ+1)))
def fy.l2 : Nat → List (List Int) → List (List Int) → Int → Int → List (List Int) → Int → Int → List Int → Int → Int → List Int → Int → Int → Option ((List (List Int)))
 | 0,_,_,_,_,_,_,_,_,_,_,_,_,_=>none
 | k+1,x1,x5,x6,x9,fu,atj,dQ,atl,jz,nr,RU,vn,xx=>if xx < vn then (if 0≤xx then (if xx < (RU.length:Int) then (if 0≤x6 then (if x6 < (x5.length:Int) then (if xx < ((ai x5 x6).length:Int) then (fy.l2 k x1 (x5.set (x6:Int).toNat ((ai x5 x6).set (xx:Int).toNat (wrap64 ((rd (ai x5 x6) xx)+(wrap64 (x9 * (rd RU xx))))))) x6 x9 fu atj dQ atl jz nr RU vn (wrap64 (xx+1))) else (none)) else (none)) else (none)) else (none)) else (none)) else (fy.l1 k x1 x5 x6 fu atj dQ atl jz (wrap64 (nr+1)))
end
def fy.f (k:Nat) (l0:List (List Int)) (l1:List (List Int)):Option ((List (List Int))):=(lR.f k (l0.length:Int)).bind fun t101=>(fy.l0 k l1 t101 l0 (l0.length:Int) 0)
theorem fy.calls (k : Nat) (A0 : Option Addr) (c0 : Nat) (l0 : List (List Int)) (A1 : Option Addr) (c1 : Nat) (l1 : List (List Int)) (r : List (List Int)) (w : World) (bX : Kd.C (Kd.slice 2 (Kd.int .i64)) w A0 l0.length l0) (hc0 : l0.length ≤ c0) (gl : Kd.C (Kd.slice 2 (Kd.int .i64)) w A1 l1.length l1) (iQ : l1.length ≤ c1) (h : fy.f k l0 l1 = some r) :
  Calls Try.prog 87 #[.slice A0 l0.length c0,.slice A1 l1.length c1] w fun e w'=>∃ ati:Value,e=.returned (ati)∧Kd.S (Kd.slice 2 (Kd.int .i64)) 29 w' w.heap.size (fun _=>True) ati r∧Below w.heap.size w w':=by
 have dh:=k0 bX
 have gG:=k0 hc0
 clear bX hc0
 have iM:=k0 gl
 have yE:=k0 iQ
 clear gl iQ
 have HB:=k0 (Below.refl w.heap.size w)
 unfold fy.f at h
 have H:=h
 clear h
 replace H:=bS H;obtain ⟨t101,A3,H⟩:=H
 have H':=k0 H
 clear H
 go_enter Try.func87,Try.ntmps87
 go_wp2_with (first|(refine aT (f:=122) rfl ?_;refine gC (some 14) Try.func122 #[.int .i64 (l0.length:Int)] ?_;(with_reducible refine (lR.calls k (l0.length:Int) t101 _ A3.z).mono ?_);rintro e w4 ⟨nO,rfl,as2,hb⟩;refine ⟨_,rfl,?_⟩;have eV:=k0 (Kd.jD as2 (as8 bl));replace HB:=bW hb))
 go_loopg [17] k (fun kq C9 w'=>∃ (aD:List (List Int)) (cI:Int),C9=.int .i64 cI∧af (fy.l0 kq l1 aD l0 (l0.length:Int) cI=some r)∧af (kq≤k)∧af (Kd.S (Kd.slice 2 (Kd.int .i64)) 29 w' w.heap.size (fun _=>True) nO aD)∧af (Below w.heap.size w w'))
 case atStart=>exact ⟨(t101),(0),rs,H',⟨Nat.le_refl _⟩,⟨aS (eV.z)⟩,⟨bl⟩⟩
 case round =>
  clear H'
  obtain ⟨aD,cI,rfl,HA,as3,aq,HB⟩:=hrel
  cases gk with
  | zero=>exact absurd HA.z (by simp [fy.l0])
  | succ k1 =>
   have H:=HA.z
   clear HA
   simp only [fy.l0] at H
   replace H:=iC H;obtain ⟨gJ,H⟩|⟨gJ,H⟩:=H
   case inl =>
    obtain rfl:=Option.some.inj H
    go_wp2
    go_ret
    exact ⟨_,eR,aS aq.z,bl⟩
   replace H:=iS H;obtain ⟨c6,H⟩:=H
   have iP:=decide_eq_true c6
   clear c6
   replace H:=iS H;obtain ⟨c7,H⟩:=H
   have pn:=decide_eq_true c7
   clear c7
   have H':=k0 H
   clear H
   obtain ⟨cC,cD⟩:=iN cI (l0.length:Int)
   obtain ⟨jE,IW,JL,e104,cM,sj,r_⟩:=b8 dh.z cI cC cD
   cases e104
   replace cM:=hbc HB cM
   have xN:=k0 r_
   have I9:=k0 sj
   clear r_ sj
   replace cC:=eT cC
   replace cD:=eT cD
   go_wp2
   go_loopg [24] k1 (fun kq Rs w'=>∃ (bg:List (List Int)) (jK:Int),Rs=.int .i64 jK∧af (fy.l1 kq l1 bg cI l0 (l0.length:Int) cI (ai l0 cI) ((ai l0 cI).length:Int) jK=some r)∧af (kq≤k1)∧af (Kd.S (Kd.slice 2 (Kd.int .i64)) 29 w' w.heap.size (fun _=>True) nO bg)∧af (Below w.heap.size w w'))
   case atStart=>exact ⟨(aD),(0),rs,H',⟨Nat.le_refl _⟩,⟨aS (aq.z)⟩,⟨bl⟩⟩
   case round =>
    clear H'
    obtain ⟨bg,jK,rfl,HA,bw,aq,HB⟩:=hrel
    cases gk with
    | zero=>exact absurd HA.z (by simp [fy.l1])
    | succ k2 =>
     have H:=HA.z
     clear HA
     simp only [fy.l1] at H
     replace H:=iC H;obtain ⟨kX,H⟩|⟨kX,H⟩:=H
     case inl =>
      have H':=k0 H
      clear H
      go_wp2
      go_roundg k2
      case measure=>have:=as3.z;have:=bw.z;omega
      case rel=>exact ⟨(bg),(wrap64 (cI+1)),rs,H',⟨by have:=as3.z;have:=bw.z;omega⟩,⟨aS (aq.z)⟩,⟨bl⟩⟩
     replace H:=iS H;obtain ⟨c9,H⟩:=H
     have au6:=decide_eq_true c9
     clear c9
     replace H:=iS H;obtain ⟨c10,H⟩:=H
     have iw:=decide_eq_true c10
     clear c10
     replace H:=iE H;obtain ⟨c11,kW,Am,H⟩|⟨kW,Am,H⟩:=H
     case inl =>
      replace H:=iS H;obtain ⟨c12,H⟩:=H
      have pg:=decide_eq_true c12
      clear c12
      have H':=k0 H
      clear H
      obtain ⟨dm,c_⟩:=iN jK ((ai l0 cI).length:Int)
      obtain ⟨jo,e105,dO⟩:=Kd.bK xN.z jK dm c_
      cases e105
      replace dO:=hbc HB dO
      replace dm:=eT dm
      replace c_:=eT c_
      obtain ⟨eL,ee⟩:=iN jK (l1.length:Int)
      obtain ⟨oq,IX,JM,e106,fY,sk,sg⟩:=b8 iM.z jK eL ee
      cases e106
      replace fY:=hbc HB fY
      have rj:=k0 sg
      have I_:=k0 sk
      clear sg sk
      replace eL:=eT eL
      replace ee:=eT ee
      go_wp2
      go_loopg [36] k2 (fun kq Rw w'=>∃ (oX:List (List Int)) (mR:Int),Rw=.int .i64 mR∧af (fy.l2 kq l1 oX cI (rd (ai l0 cI) jK) l0 (l0.length:Int) cI (ai l0 cI) ((ai l0 cI).length:Int) jK (ai l1 jK) ((ai l1 jK).length:Int) mR=some r)∧af (kq≤k2)∧af (Kd.S (Kd.slice 2 (Kd.int .i64)) 29 w' w.heap.size (fun _=>True) nO oX)∧af (Below w.heap.size w w'))
      case atStart=>exact ⟨(bg),(0),rs,H',⟨Nat.le_refl _⟩,⟨aS (aq.z)⟩,⟨bl⟩⟩
      case round =>
       clear H'
       obtain ⟨oX,mR,rfl,HA,cS,aq,HB⟩:=hrel
       cases gk with
       | zero=>exact absurd HA.z (by simp [fy.l2])
       | succ k3 =>
        have H:=HA.z
        clear HA
        simp only [fy.l2] at H
        replace H:=iC H;obtain ⟨qF,H⟩|⟨qF,H⟩:=H
        case inl =>
         have H':=k0 H
         clear H
         go_wp2
         go_roundg k3
         case measure=>have:=as3.z;have:=bw.z;have:=cS.z;omega
         case rel=>exact ⟨(oX),(wrap64 (jK+1)),rs,H',⟨by have:=as3.z;have:=bw.z;have:=cS.z;omega⟩,⟨aS (aq.z)⟩,⟨bl⟩⟩
        replace H:=iS H;obtain ⟨c14,H⟩:=H
        have ov:=decide_eq_true c14
        clear c14
        replace H:=iS H;obtain ⟨c15,H⟩:=H
        have qG:=decide_eq_true c15
        clear c15
        replace H:=iS H;obtain ⟨c16,H⟩:=H
        have auo:=decide_eq_true c16
        clear c16
        replace H:=iS H;obtain ⟨c17,H⟩:=H
        have Ap:=decide_eq_true c17
        clear c17
        replace H:=iS H;obtain ⟨c18,H⟩:=H
        have au2:=decide_eq_true c18
        clear c18
        obtain ⟨tX,yO⟩:=nY ((ai oX cI).set (mR:Int).toNat (wrap64 ((rd (ai oX cI) mR)+(wrap64 ((rd (ai l0 cI) jK) * (rd (ai l1 jK) mR))))):List Int)
        replace H:(fy.l2 k3 l1 (oX.set (cI:Int).toNat tX) cI (rd (ai l0 cI) jK) l0 (l0.length:Int) cI (ai l0 cI) ((ai l0 cI).length:Int) jK (ai l1 jK) ((ai l1 jK).length:Int) (wrap64 (mR+1)))=some r:=rH yO.z H
        obtain ⟨vq,vL⟩:=nY (oX.set (cI:Int).toNat tX:List (List Int))
        replace H:(fy.l2 k3 l1 vq cI (rd (ai l0 cI) jK) l0 (l0.length:Int) cI (ai l0 cI) ((ai l0 cI).length:Int) jK (ai l1 jK) ((ai l1 jK).length:Int) (wrap64 (mR+1)))=some r:=rH vL.z H
        have H':=k0 H
        clear H
        obtain ⟨jv,jw⟩:=iN mR ((ai l1 jK).length:Int)
        obtain ⟨qA,e107,jt⟩:=Kd.bK rj.z mR jv jw
        cases e107
        replace jt:=hbc HB jt
        replace jv:=eT jv
        replace jw:=eT jw
        obtain ⟨zR,au7,rfl⟩:=Kd.er aq.z
        obtain ⟨ia,ic⟩:=iN cI (oX.length:Int)
        obtain ⟨ux,alJ,adH,e108,jH,Xx,Xf⟩:=b8 (Kd.as4 aq.z).2.2 cI ia ic
        cases e108
        obtain ⟨an3,ago,af',Wb⟩:=Kd.att aq.z [] cI ia (by first|exact ic|exact oD|(have e_:=(Kd.as4 aq.z).1;omega))
        obtain ⟨asn,rfl,Ow⟩:=af'
        have Hx:=Wb 0 _ rfl
        rw [Nat.add_zero,show ((Kd.slice 2 (Kd.int .i64))).sz=1 from rfl,Nat.mul_one] at Hx
        replace Hx:=Option.some.inj (Hx.symm.trans jH)
        rw [Hx] at Ow
        have Mt:=k0 (show Kd.R (Kd.int .i64) 2 _ _ _ _ (ai oX cI) from Ow)
        clear Hx Ow
        have MZ:=k0 jH
        clear Wb ago
        have S1:=k0 Xf
        have amH:=k0 Xx
        clear Xf Xx
        replace ia:=eT ia
        replace ic:=eT ic
        obtain ⟨Qh,QE⟩:=iN mR ((ai oX cI).length:Int)
        obtain ⟨ann,e109,X2⟩:=Kd.bK (by repeat (first|(with_reducible exact S1.z)|(with_reducible refine Kd.jO ?_ _)|(with_reducible refine Kd.jP ?_ _)|(with_reducible refine Kd.ij ?_)|exact S1.z)) mR Qh QE
        cases e109
        replace Qh:=eT Qh
        replace QE:=eT QE
        have Qq:0≤(mR:Int):=oD
        have QO:(mR:Int) < (((ai oX cI).length:Int):Int):=oD
        obtain ⟨OP,uz,Gq,VJ,afM,aot,Su⟩:=Kd.aun Mt.z (by omega)
        (first|cases Gq|(injection Gq with atd atk dM;(first|subst atd|(injection atd with atd;subst atd));subst dM;clear atk))
        (first|simp only [add_plain] at X2|skip)
        have aaJ:=k0 VJ
        have amA:=k0 Su
        clear VJ afM Su
        (first|simp only [add_plain] at X2|skip)
        obtain ⟨arF,apv⟩:=Kd.nA 0 Mt.z (mR:Int) Qq QO
        replace Qq:=eT Qq
        replace QO:=eT QO
        have PD:(cI:Int) < (oX.length:Int):=(by have h_:(cI:Int) < ((oX.length:Int):Int):=oD;first|exact h_|(have e_:=(Kd.as4 aq.z).1;omega)|simpa only [List.length_set,List.length_set] using h_)
        obtain ⟨YS,aeP,Pc,OV,G1,EO,GS⟩:=Kd.vP aq.z [] (cI:Int) oD (by first|exact PD|(have e_:=(Kd.as4 aq.z).1;omega))
        obtain ⟨ak7,rfl,auO⟩:=OV
        have y9:=G1 0 _ rfl
        rw [Nat.add_zero,show ((Kd.slice 2 (Kd.int .i64))).sz=1 from rfl,Nat.mul_one] at y9
        replace y9:=Option.some.inj (y9.symm.trans MZ.z)
        subst y9
        clear G1 Pc
        replace auO:=(show Kd.R (Kd.int .i64) 2 _ _ _ _ (ai oX cI) from auO)
        have xM:=Kd.s8 auO (mR:Int) (wrap64 ((rd (ai oX cI) mR)+(wrap64 ((rd (ai l0 cI) jK) * (rd (ai l1 jK) mR)))))
        go_wp2_with (first|((with_reducible refine Gv (t:=2) (p:=52) rfl ?_);refine Il (t:=2) (p:=52) (v:=?asM) (w1:=(wr.setCell ⟨OP,(mR:Int).toNat,none⟩ (.int .i64 (wrap64 ((rd (ai oX cI) mR)+(wrap64 ((rd (ai l0 cI) jK) * (rd (ai l1 jK) mR)))))))) ?hg ?ho ?hn ?hr ?_;(case ho=>rfl);(case hg=>rfl);(case hn=>rfl);(case hr=>first|(go_simp;done)|(go_simp;rfl));intro Fe hw;have hg:wr.grownBy Fe (some OP):=(by rw [hw];exact xM.2);have wQ:Kd.R (Kd.int .i64) 2 Fe w.heap.size YS (.slice (some ⟨OP,0,none⟩) (ai oX cI).length adH) tX:=(by rw [hw,yO.z];exact xM.1);have sx:Kd.S (Kd.slice 2 (Kd.int .i64)) 29 Fe w.heap.size (fun _=>True) (.slice (some ux) oX.length au7) vq:=(by rw [vL.z];exact GS hg (fun k_ e_=>by injection e_ with e_;subst e_;exact auO.1 _ rfl) (Kd.ke wQ));have wC:=Kd.aH wQ EO;clear xM GS;replace aq:=k0 sx;replace MZ:=k0 (tq hg MZ.z (vV (EO _ (auO.1 _ rfl)).2));replace HB:=k0 ((by rw [hw];exact o9 (HB.z) aaJ.out:Below w.heap.size w Fe));have am0:=k0 wC;have amI:=k0 ((Kd.bD wC).2.1);clear Mt;clear hg hw sx wQ wC EO))
        go_roundg k3
        case measure=>have:=as3.z;have:=bw.z;have:=cS.z;omega
        case rel=>exact ⟨(vq),(wrap64 (mR+1)),rs,H',⟨by have:=as3.z;have:=bw.z;have:=cS.z;omega⟩,⟨aS (aq.z)⟩,⟨bl⟩⟩
     have H':=k0 H
     clear H
     obtain ⟨dm,c_⟩:=iN jK ((ai l0 cI).length:Int)
     obtain ⟨jo,e105,dO⟩:=Kd.bK xN.z jK dm c_
     cases e105
     replace dO:=hbc HB dO
     replace dm:=eT dm
     replace c_:=eT c_
     go_wp2
     go_roundg k2
     case measure=>have:=as3.z;have:=bw.z;omega
     case rel=>exact ⟨(bg),(wrap64 (jK+1)),rs,H',⟨by have:=as3.z;have:=bw.z;omega⟩,⟨aS (aq.z)⟩,⟨bl⟩⟩
/-! ### F36: function 36 -/
mutual
def dD.l0 : Nat → List (List Int) → List Int → List (List Int) → Int → Int → Int → Option (List Int × Int)
 | 0,_,_,_,_,_,_=>none
 | k+1,xr,atx,b6,nS,lg,cn=>if lg < nS then ((auh.f k b6).bind fun t112=>((nZ.f t112 cn).bind fun t113=>(if atx.length < 17592186044416 then ((fy.f k b6 xr).bind fun t117=>(dD.l1 k xr (atx ++ [t113]) t117 nS lg (t117.length:Int) 0 cn)) else (none)))) else (some (atx,0))
def dD.l1 : Nat → List (List Int) → List Int → List (List Int) → Int → Int → Int → Int → Int → Option (List Int × Int)
 | 0,_,_,_,_,_,_,_,_=>none
 | k+1,xr,atx,b6,nS,lg,IJ,vo,cn=>if vo < IJ then (if 0≤vo then (if vo < (b6.length:Int) then (dD.l2 k xr atx b6 nS lg IJ vo ((ai b6 vo).length:Int) 0 cn) else (none)) else (none)) else (dD.l0 k xr atx b6 nS (wrap64 (lg+1)) cn)
def dD.l2 : Nat → List (List Int) → List Int → List (List Int) → Int → Int → Int → Int → Int → Int → Int → Option (List Int × Int)
 | 0,_,_,_,_,_,_,_,_,_,_=>none
 | k+1,xr,atx,b6,nS,lg,IJ,vo,Z1,Fj,cn=>if Fj < Z1 then (if 0≤Fj then (if Fj < ((ai b6 vo).length:Int) then (if cn=0 then (none) else (dD.l2 k xr atx (b6.set (vo:Int).toNat ((ai b6 vo).set (Fj:Int).toNat (Int.tmod (rd (ai b6 vo) Fj) cn))) nS lg IJ vo Z1 (wrap64 (Fj+1)) cn)) else (none)) else (none)) else (dD.l1 k xr atx b6 nS lg IJ (wrap64 (vo+1)) cn)
end
def dD.f (k:Nat) (a0:Int) (aE:Int) (az:List (List Int)) (l2:List Int) (a3:Int):Option (List Int × Int):=(zW.f k aE az a0 aE az l2 a3).bind fun t105=>(if t105=0 then ((gw.f k aE az l2).bind fun t109=>(dD.l0 k t109 (([]:List Int)) t109 a3 0 a0)) else (some (([]:List Int),t105)))
def dD.T8:Bool × List (List Nat × List Nat):=(true,[([],[]),([],[]),([1],[1]),([],[]),([2,3,2],[2,3]),([4],[4]),([0,5,4],[0,5]),([6,6,0,1,2,3,4,5,6],[0,6])])
def dD.B8:List Nat:=[0,0,2,0,14,30,63,127]
theorem dD.Ri:eB .any (opsOf Try.f36 8)=dD.T8:=by kernel_rfl
theorem dD.NL:ie dD.T8.2 dD.B8=true:=by kernel_rfl
def dD.TU:Bool × List (List Nat × List Nat):=(true,[([],[]),([],[]),([0,1],[0,1]),([2],[2]),([],[]),([3,4],[3,4]),([0,1,0,1,2,3,4,5],[0,1]),([6,5,0,1,2,3,4,5],[5,6])])
def dD.B16:List Nat:=[0,0,3,7,0,31,63,127]
theorem dD.akA:eB .any (opsOf Try.f36 16)=dD.TU:=by kernel_rfl
theorem dD.adu:ie dD.TU.2 dD.B16=true:=by kernel_rfl
theorem dD.calls (k : Nat) (a0 : Int) (aE : Int) (atb : Option Addr) (atc : Nat) (az : List (List Int)) (A2 : Option Addr) (c2 : Nat) (l2 : List Int) (a3 : Int) (r1 : List Int) (r2 : Int) (w : World) (iB : Kd.C (Kd.slice 2 (Kd.int .i64)) w atb az.length az) (iz : az.length ≤ atc) (atQ : Kd.C (Kd.int .i64) w A2 l2.length l2) (at4 : l2.length ≤ c2) (h : dD.f k a0 aE az l2 a3 = some (r1, r2)) :
  Calls Try.prog 36 #[.int .i64 a0,.agg #[.int .i64 aE,.slice atb az.length atc],.slice A2 l2.length c2,.int .i64 a3] w fun e w'=>∃ ati:Value,e=.returned (.tuple #[ati,.int .i64 r2])∧Kd.R (Kd.int .i64) 2 w' w.heap.size (fun _=>True) ati r1∧Below w.heap.size w w':=by
 have gV:=Try.underlying26
 have ep:=k0 iB
 have eo:=k0 iz
 clear iB iz
 have iX:=k0 atQ
 have atO:=k0 at4
 clear atQ at4
 have HB:=k0 (Below.refl w.heap.size w)
 unfold dD.f at h
 have H:=h
 clear h
 replace H:=bS H;obtain ⟨t105,A5,H⟩:=H
 replace H:=iE H;obtain ⟨c6,iP,mY,H⟩|⟨iP,mY,H⟩:=H
 case inl =>
  obtain ⟨rfl,rfl⟩:=mT H
  go_enter Try.func36,Try.ntmps36
  go_wp2_with (first|(refine aX (N:=4) rfl ?_;refine dL 4 #[.int .i64 a0] 2 bl ?_;intro ay w47 aa bn HB;have cG:=bn)|(refine aX (N:=5) rfl ?_;refine eJ 5 #[.int .i64 aE,.slice atb az.length atc] 26 ?_;intro cY hg Ly aY hb;have as5:=k0 aY;have j9:=gW hg (as8 bl);have q6:=j9;replace HB:=bW hb;have gh:=nL hg aa;have nx:=nG gh;replace aa:=kB aa hb;clear hb aY hg)|(refine aX (N:=6) rfl ?_;refine eJ 6 #[.slice A2 l2.length c2] 29 ?_;intro nc hg RE aY hb;have cL:=k0 aY;have sP:=gW hg (as8 bl);have BN:=sP;replace HB:=bW hb;have auF:=nL hg aa;replace aa:=kB aa hb;have Ab:=nG auF;have ny:=nL hg as5;replace as5:=kB as5 hb;have yM:=nG ny;clear hb aY hg)|(refine aX (N:=7) rfl ?_;refine eJ 7 #[.int .i64 a3] 2 ?_;intro pG hg RF aY hb;have atA:=k0 aY;have BO:=gW hg (as8 bl);have I8:=BO;replace HB:=bW hb;have yK:=nL hg aa;replace aa:=kB aa hb;have FN:=nG yK;have vJ:=nL hg as5;replace as5:=kB as5 hb;have FO:=nG vJ;have xQ:=nL hg cL;replace cL:=kB cL hb;have Jq:=nG xQ;clear hb aY hg;obtain ⟨_,_⟩:=nE nx;obtain ⟨_,_⟩:=nE ny;obtain ⟨_,_⟩:=nE vJ;obtain ⟨_,_,_,_⟩:=as9 as5)|(refine aT (f:=62) rfl ?_;refine gC (some 19) Try.func62 #[.agg #[.int .i64 aE,.slice atb az.length atc],.func (.func 84) #[] #[.pointer (some ⟨ay,0,none⟩),.pointer (some ⟨cY,0,none⟩),.pointer (some ⟨nc,0,none⟩),.pointer (some ⟨pG,0,none⟩)]] ?_;(with_reducible refine (zW.calls k aE _ _ az a0 aE atb atc az A2 c2 l2 a3 t105 _ ?av ?ax ?bM ?bT ?iG ?rJ ?xd ?xe ?xg ?C6 A5.z).mono ?_);(case av=>exact aC (Kd.bL ep.z HB.z));(case ax=>exact eo.z);(case bM=>exact aC (Kd.bL ep.z HB.z));(case bT=>exact eo.z);(case iG=>exact aC (Kd.bL iX.z HB.z));(case rJ=>exact atO.z);(case xd=>exact by exact bk);(case xe=>exact by exact bk);(case xg=>exact by exact bk);(case C6=>exact by exact bk);rintro e RG ⟨rfl,hb⟩;refine ⟨_,rfl,?_⟩;replace aa:=kB aa hb;replace as5:=kB as5 hb;replace cL:=kB cL hb;replace atA:=kB atA hb;replace HB:=bW hb))
  go_ret2
  exact ⟨_,eR,by first|exact Kd.rZ _ _ _ _ _|exact Kd.xR _ _ _ _ _|exact Kd.xX _ _ _ _ _|exact Kd.xV _ _ _ _ _|exact Kd.xW _ _ _ _ _,bl⟩
 obtain ⟨yA,xT⟩:=nY (([]:List Int):List Int)
 replace H:((gw.f k aE az l2).bind fun t109=>(dD.l0 k t109 yA t109 a3 0 a0))=some (r1,r2):=rH xT.z H
 replace H:=bS H;obtain ⟨t109,A7,H⟩:=H
 have H':=k0 H
 clear H
 go_enter Try.func36,Try.ntmps36
 go_wp2_with (first|(refine aX (N:=4) rfl ?_;refine dL 4 #[.int .i64 a0] 2 bl ?_;intro ay w8 aa bn HB;have cG:=bn)|(refine aX (N:=5) rfl ?_;refine eJ 5 #[.int .i64 aE,.slice atb az.length atc] 26 ?_;intro cY hg w9 aY hb;have as5:=k0 aY;have j9:=gW hg (as8 bl);have q6:=j9;replace HB:=bW hb;have gh:=nL hg aa;have nx:=nG gh;replace aa:=kB aa hb;clear hb aY hg)|(refine aX (N:=6) rfl ?_;refine eJ 6 #[.slice A2 l2.length c2] 29 ?_;intro nc hg pT aY hb;have cL:=k0 aY;have sP:=gW hg (as8 bl);have BN:=sP;replace HB:=bW hb;have auF:=nL hg aa;replace aa:=kB aa hb;have Ab:=nG auF;have ny:=nL hg as5;replace as5:=kB as5 hb;have yM:=nG ny;clear hb aY hg)|(refine aX (N:=7) rfl ?_;refine eJ 7 #[.int .i64 a3] 2 ?_;intro pG hg Bo aY hb;have atA:=k0 aY;have BO:=gW hg (as8 bl);have I8:=BO;replace HB:=bW hb;have yK:=nL hg aa;replace aa:=kB aa hb;have FN:=nG yK;have vJ:=nL hg as5;replace as5:=kB as5 hb;have FO:=nG vJ;have xQ:=nL hg cL;replace cL:=kB cL hb;have Jq:=nG xQ;clear hb aY hg;obtain ⟨_,_⟩:=nE nx;obtain ⟨_,_⟩:=nE ny;obtain ⟨_,_⟩:=nE vJ;obtain ⟨_,_,_,_⟩:=as9 as5)|(refine aT (f:=62) rfl ?_;refine gC (some 19) Try.func62 #[.agg #[.int .i64 aE,.slice atb az.length atc],.func (.func 84) #[] #[.pointer (some ⟨ay,0,none⟩),.pointer (some ⟨cY,0,none⟩),.pointer (some ⟨nc,0,none⟩),.pointer (some ⟨pG,0,none⟩)]] ?_;(with_reducible refine (zW.calls k aE _ _ az a0 aE atb atc az A2 c2 l2 a3 t105 _ ?av ?ax ?bM ?bT ?iG ?rJ ?xd ?xe ?xg ?C6 A5.z).mono ?_);(case av=>exact aC (Kd.bL ep.z HB.z));(case ax=>exact eo.z);(case bM=>exact aC (Kd.bL ep.z HB.z));(case bT=>exact eo.z);(case iG=>exact aC (Kd.bL iX.z HB.z));(case rJ=>exact atO.z);(case xd=>exact by exact bk);(case xe=>exact by exact bk);(case xg=>exact by exact bk);(case C6=>exact by exact bk);rintro e yp ⟨rfl,hb⟩;refine ⟨_,rfl,?_⟩;replace aa:=kB aa hb;replace as5:=kB as5 hb;replace cL:=kB cL hb;replace atA:=kB atA hb;replace HB:=bW hb)|(refine aX (N:=23) rfl ?_;refine jM 2 (N:=23) (xs:=([]:List Int)) (inner:=[]) (aJ.none _ _) ?_;intro Iq yq tE hb bR atf;clear bR atf;(first|rw [← xT.z] at tE|(simp only [Int.reduceToNat] at tE;rw [← xT.z] at tE));have kS:=k0 (Kd.cg (Kd.Nz (Kd.Nz tE (aB aa.z)) (aB atA.z)) (as8 bl));replace aa:=kB aa hb;replace as5:=kB as5 hb;replace cL:=kB cL hb;replace atA:=kB atA hb;replace HB:=bW hb;clear hb tE;obtain ⟨_,_,_,_⟩:=as9 as5;obtain ⟨_,_⟩:=nE Ab;obtain ⟨_,_⟩:=nE xQ;obtain ⟨_,_⟩:=uD cL)|(refine aT (f:=80) rfl ?_;refine gC (some 26) Try.func80 #[.agg #[.int .i64 aE,.slice atb az.length atc],.slice A2 l2.length c2] ?_;(with_reducible refine (gw.calls k aE _ _ az _ _ l2 t109 _ ?av ?ax ?bM ?bT A7.z).mono ?_);(case av=>exact aC (Kd.bL ep.z HB.z));(case ax=>exact eo.z);(case bM=>exact aC (Kd.bL iX.z HB.z));(case bT=>exact atO.z);rintro e RB ⟨akP,rfl,as2,hb⟩;refine ⟨_,rfl,?_⟩;have fC:=eI kS hb;have fD:=k0 (Kd.jD (Kd.Ae (Kd.Ae (Kd.Ae (Kd.uw as2 (Kd.bV (aR kS.z))) (aB aa.z)) (aB cL.z)) (aB atA.z)) (as8 bl));have gN:=kB aa hb;have jb:=kB as5 hb;have kn:=kB cL hb;have aua:=kB atA hb;have avi:=bW hb;clear kS;clear aa;clear as5;clear cL;clear atA;clear HB;have kS:=fC;have BU:=fD;have atn:=k0 BU.z;have aa:=gN;have as5:=jb;have cL:=kn;have atA:=aua;have HB:=avi;clear fC fD gN jb kn aua avi;obtain ⟨_,_⟩:=nE FN;obtain ⟨_,_⟩:=uD atA))
 obtain ⟨ud,uC,rfl⟩:=Kd.er atn.z
 go_loopg [11,13,29] k (fun kq v11 tQ Ru w'=>∃ (yw:List Int) (dV:List (List Int)) (zG:Int),Ru=.int .i64 zG∧af (dD.l0 kq t109 yw dV a3 zG a0=some (r1,r2))∧af (kq≤k)∧af (Kd.R (Kd.int .i64) 2 w' w.heap.size (fun k_=>k_ ≠ ay∧k_ ≠ pG) v11 yw)∧af (Kd.S (Kd.slice 2 (Kd.int .i64)) 29 w' w.heap.size (fun k_=>some k_ ≠ (v11:Value).ownBlock∧k_ ≠ ay∧k_ ≠ nc∧k_ ≠ pG) tQ dV)∧af (w'.heap[ay]?=some (.cells #[.int .i64 a0] 2 (0,0)))∧af (w'.heap[cY]?=some (sO aE atb az atc 26))∧af (w'.heap[nc]?=some (.cells #[(.slice A2 l2.length c2)] 29 (0,0)))∧af (w'.heap[pG]?=some (.cells #[.int .i64 a3] 2 (0,0)))∧af (Kd.S (Kd.slice 2 (Kd.int .i64)) 29 w' w.heap.size (fun k_=>some k_ ≠ (v11:Value).ownBlock) (.slice ud t109.length uC) t109)∧af (Below w.heap.size w w'))
 case atStart=>exact ⟨(yA),(t109),(0),rs,H',⟨Nat.le_refl _⟩,⟨aR (Kd.aH kS.z (fun _ hk=>⟨hk.1.2,hk.2⟩))⟩,⟨aS (Kd.bQ BU.z (fun _ hk=>⟨hk.1.1.1.2,⟨hk.1.1.2,⟨hk.1.2,hk.2⟩⟩⟩))⟩,⟨bk⟩,⟨bk⟩,⟨bk⟩,⟨bk⟩,⟨aS (Kd.bQ atn.z (fun _ hk=>hk.1.1.1.2))⟩,⟨bl⟩⟩
 case round =>
  clear H'
  obtain ⟨yw,dV,zG,rfl,HA,as3,mV,dH,aa,as5,cL,atA,atn,HB⟩:=hrel
  cases gk with
  | zero=>exact absurd HA.z (by simp [dD.l0])
  | succ k1 =>
   have H:=HA.z
   clear HA
   simp only [dD.l0] at H
   replace H:=iC H;obtain ⟨Cf,H⟩|⟨Cf,H⟩:=H
   case inl =>
    obtain ⟨rfl,rfl⟩:=mT H
    go_wp2
    go_ret2
    exact ⟨_,eR,aR (Kd.aH mV.z (fun _ hk=>trivial)),bl⟩
   replace H:=bS H;obtain ⟨t112,BA,H⟩:=H
   replace H:=bS H;obtain ⟨t113,A28,H⟩:=H
   replace H:=iS H;obtain ⟨c29,H⟩:=H
   have Nh:=k0 c29
   clear c29
   obtain ⟨Z5,Tl⟩:=nY (yw ++ [t113]:List Int)
   replace H:((fy.f k1 dV t109).bind fun t117=>(dD.l1 k1 t109 Z5 t117 a3 zG (t117.length:Int) 0 a0))=some (r1,r2):=rH Tl.z H
   replace H:=bS H;obtain ⟨t117,Ds,H⟩:=H
   have H':=k0 H
   clear H
   try go_wp2
   have mm:=k0 (Kd.dK atn.z)
   clear atn
   have atn:=mm
   clear mm
   replace mV:=k0 (Kd.di mV.z);replace dH:=k0 (Kd.dK dH.z);replace aa:=k0 (dg aa.z);replace as5:=k0 (dg as5.z);replace cL:=k0 (dg cL.z);replace atA:=k0 (dg atA.z);replace HB:=k0 (eZ HB.z)
   obtain ⟨au',Av,Vf⟩:=Kd.er dH.z
   (first|subst Vf|(injection Vf with atu jq fc;have jr:=atu.symm;have js:=fc.symm;clear atu jq fc;subst jr;subst js))
   refine atG (n:=8) (S:=fun w'=>w'.cell? ⟨ay,0,none⟩=some (.int .i64 a0)) (ds:=[]) (ba 8 0) (by kernel_rfl) rfl rfl (dU aa) (fun hHeld=>?_);refine jX dD.Ri dD.NL (fun aj bP=>?_)
   generalize wr.drew=Lx at mV dH aa as5 cL atA HB atn hHeld ⊢
   refine pu 0 (some 31) (ba 8 1) aj (h:=?_)
   refine pu 1 (some 32) (ba 8 3) aj (h:=?_)
   refine ta 3 (some 34) (ba 8 11) aj bP hHeld (hy:=Or.inl ⟨by rfl,by intro w' s0;go_simp;with_reducible rfl⟩) (h:=?_)
   refine atw (i:=2) (N:=some 33) (ba 8 15) rfl rfl (atq aj.out (by kernel_rfl)) (by decide) (fun K hK=>?_)
   refine mI Try.func58 (by kernel_rfl) rfl #[.slice au' dV.length Av] (by rfl) rfl rfl gm ?_
   with_reducible refine (auh.calls k1 _ _ dV t112 _ ?av ?ax BA.z).mono ?_
   (case av=>exact aC ((Kd.as4 dH.z).2.2))
   (case ax=>exact (Kd.as4 dH.z).2.1)
   rintro e w' ⟨rfl,⟨nd,rfl⟩⟩
   refine ⟨_,rfl,?_⟩
   refine hK.out _ _ (dU aa) (fun hHeld=>?_)
   clear hK K
   refine hJ (a':=?_) ?_ ?_
   rotate_left;· show Act.put _ (some 33) _=_;simp only [Act.put,zI,zZ,zS,bp,bH];rfl
   refine atw (i:=4) (N:=some 35) (ba 8 31) rfl rfl (atq aj.out (by kernel_rfl)) (by decide) (fun K hK=>?_)
   refine mI Try.func86 (by kernel_rfl) rfl #[.int .i64 t112,.int .i64 a0] (by rfl) rfl rfl gm ?_
   with_reducible refine (nZ.calls t112 a0 t113 _ A28.z).mono ?_
   rintro e w' ⟨rfl,⟨nd,rfl⟩⟩
   refine ⟨_,rfl,?_⟩
   refine hK.out _ _ (dU aa) (fun hHeld=>?_)
   clear hK K
   refine hJ (a':=?_) ?_ ?_
   rotate_left;· show Act.put _ (some 35) _=_;simp only [Act.put,zI,zZ,zS,bp,bH];rfl
   refine atw (i:=5) (N:=some 36) (ba 8 63) rfl rfl (atq aj.out (by kernel_rfl)) (by decide) (fun K hK=>?_)
   refine Iu (w1:=?_) (v:=?_) (by rfl) rfl ?_ ?_
   rotate_left 2
   ·go_simp
    constructor
    ·rfl
    ·rfl
   refine hK.out _ _ ((dY (atW aa.z _) 0).trans rfl) (fun hHeld=>?_)
   clear hK K
   refine hJ (a':=?_) ?_ ?_
   rotate_left;· show Act.put _ (some 36) _=_;simp only [Act.put,zI,zZ,zS,bp,bH];rfl
   refine atw (i:=6) (N:=some 37) (ba 8 127) rfl rfl (atq aj.out (by kernel_rfl)) (by decide) (fun K hK=>?_)
   refine Kd.Ju (Kd.int .i64) (w0:=w) w.heap.size (by rfl) (.tmp 31) (.tmp 36) 29 2 (.int .i64 0) 8 rfl Try.underlying29 ju rfl (by decide) (by omega) u11 yw t113 [.int .i64 t113] (fun k_=>k_ ≠ ay∧k_ ≠ pG) (fun _=>False) rfl rfl ?aP (fun _ hk=>hk.elim) ?aF ?aO ?aB ?aS ?aL ?_
   (case aP=>exact rfl)
   (case aB=>exact bl)
   (case aF=>exact (fun k_ hk=>⟨Kd.qK (aB aa.z) k_ hk,Kd.qK (aB atA.z) k_ hk⟩))
   (case aO=>exact (aR mV.z))
   (case aS=>exact (as8 bl))
   (case aL=>have:=Nh.out;omega)
   intro Bn xo ho hb hg a_
   rw [← Tl.z] at ho
   have mm:=k0 (Kd.uu (ok:=(fun _=>True)) (aS (Kd.bQ atn.z (fun _ hk=>⟨trivial,hk⟩))) hg a_)
   clear atn
   have atn:=mm
   clear mm
   replace dH:=k0 (Kd.uu (ok:=(fun k_=>k_ ≠ ay∧k_ ≠ nc∧k_ ≠ pG)) (aS (Kd.bQ dH.z (fun _ hk=>⟨⟨hk.2.1,⟨hk.2.2.1,hk.2.2.2⟩⟩,hk.1⟩))) hg a_);replace aa:=k0 (fL (aB aa.z) hg (Kd.Jv mV.z (fun _ hk=>hk.1)));replace as5:=k0 (fL (aB as5.z) hg (Kd.jh mV.z as5.z (by decide)));replace cL:=k0 (fL (aB cL.z) hg (Kd.jh mV.z cL.z (by decide)));replace atA:=k0 (fL (aB atA.z) hg (Kd.Jv mV.z (fun _ hk=>hk.2)));replace HB:=k0 hb;have FF:=k0 ho;clear mV
   clear ho hb hg a_
   refine hK.out _ _ (dU aa) (fun hHeld=>?_)
   clear hK K
   refine hJ (a':=?_) ?_ ?_
   rotate_left;· show Act.put _ (some 37) _=_;simp only [Act.put,zI,zZ,zS,bp,bH];rfl
   refine pu 7 (some 11) (ba 8 255) aj (h:=?_)
   refine gY (jU aj.out (by kernel_rfl)) ?_
   try go_wp2_with (first|(refine aT (f:=87) rfl ?_;refine gC (some 40) Try.func87 #[.slice au' dV.length Av,.slice ud t109.length uC] ?_;(with_reducible refine (fy.calls k1 _ _ dV _ _ t109 t117 _ ?av ?ax ?bM ?bT Ds.z).mono ?_);(case av=>exact aC ((Kd.as4 dH.z).2.2));(case ax=>exact (Kd.as4 dH.z).2.1);(case bM=>exact aC ((Kd.as4 atn.z).2.2));(case bT=>exact (Kd.as4 atn.z).2.1);rintro e IA ⟨Zs,rfl,as2,hb⟩;refine ⟨_,rfl,?_⟩;have fC:=kg dH (Kd.Ad as2) hb;have fD:=eI FF hb;have mm:=k0 (Kd.TP (aS atn.z) hb);obtain ⟨NS,GQ,gN,Ia⟩:∃ NS:Nat,w.heap.size≤NS∧af (Kd.S (Kd.slice 2 (Kd.int .i64)) 29 IA NS (fun k_=>some k_ ≠ (Bn:Value).ownBlock∧k_ ≠ ay∧k_ ≠ nc∧k_ ≠ pG) Zs t117)∧af (Kd.S (Kd.slice 2 (Kd.int .i64)) 29 IA w.heap.size (fun k_=>k_ < NS∧some k_ ≠ (Bn:Value).ownBlock) (.slice ud t109.length uC) t109):=⟨_,(as8 bl),⟨Kd.bQ (Kd.Ae (Kd.Ae (Kd.Ae (Kd.uw (Kd.uw as2 (Kd.yS (aS dH.z))) (Kd.bV (aR FF.z))) (aB aa.z)) (aB cL.z)) (aB atA.z)) (fun _ hk=>⟨hk.1.1.1.2,⟨hk.1.1.2,⟨hk.1.2,hk.2⟩⟩⟩)⟩,⟨Kd.bQ mm.out (fun _ hk=>⟨hk.2,hk.1.2⟩)⟩⟩;clear atn mm;have atn:=Ia;clear Ia;have jb:=kB aa hb;have kn:=kB as5 hb;have aua:=kB cL hb;have avi:=kB atA hb;have YP:=bW hb;clear dH;clear FF;clear aa;clear as5;clear cL;clear atA;clear HB;have dH:=fC;have FF:=fD;have Jg:=gN;have aa:=jb;have as5:=kn;have cL:=aua;have atA:=avi;have HB:=YP;clear fC fD gN jb kn aua avi YP;obtain ⟨xJ,tr,rfl⟩:=Kd.er Jg.z))
   go_loopg [43] k1 (fun kq v43 w'=>∃ (zD:List Int) (sH:List (List Int)) (fP:Int),v43=.int .i64 fP∧af (dD.l1 kq t109 zD sH a3 zG (t117.length:Int) fP a0=some (r1,r2))∧af (kq≤k1)∧af (Kd.R (Kd.int .i64) 2 w' w.heap.size (fun k_=>k_ ≠ ay∧k_ ≠ pG) Bn zD)∧af (Kd.S (Kd.slice 2 (Kd.int .i64)) 29 w' NS (fun k_=>some k_ ≠ (Bn:Value).ownBlock∧k_ ≠ ay∧k_ ≠ nc∧k_ ≠ pG) (.slice xJ t117.length tr) sH)∧af (w'.heap[ay]?=some (.cells #[.int .i64 a0] 2 (0,0)))∧af (w'.heap[cY]?=some (sO aE atb az atc 26))∧af (w'.heap[nc]?=some (.cells #[(.slice A2 l2.length c2)] 29 (0,0)))∧af (w'.heap[pG]?=some (.cells #[.int .i64 a3] 2 (0,0)))∧af (Kd.S (Kd.slice 2 (Kd.int .i64)) 29 w' w.heap.size (fun k_=>k_ < NS∧some k_ ≠ (Bn:Value).ownBlock) (.slice ud t109.length uC) t109)∧af (Below w.heap.size w w'))
   case atStart=>exact ⟨(Z5),(t117),(0),rs,H',⟨Nat.le_refl _⟩,⟨aR (FF.z)⟩,⟨aS (Jg.z)⟩,⟨bk⟩,⟨bk⟩,⟨bk⟩,⟨bk⟩,⟨aS (atn.z)⟩,⟨bl⟩⟩
   case round =>
    clear H'
    obtain ⟨zD,sH,fP,rfl,HA,bw,mV,dH,aa,as5,cL,atA,atn,HB⟩:=hrel
    have gL:=(Kd.as4 dH.z).1
    rw [gL] at dH
    (try simp only [gL])
    (try simp only [gL] at aa)
    (try simp only [gL] at as5)
    (try simp only [gL] at cL)
    (try simp only [gL] at atA)
    (try simp only [gL] at mV)
    cases gk with
    | zero=>exact absurd HA.z (by simp [dD.l1])
    | succ k2 =>
     have H:=HA.z
     clear HA
     simp only [dD.l1] at H
     by_cases c36:fP < (t117.length:Int)
     case neg =>
      rw [if_neg c36] at H
      have Eo:=decide_eq_false c36
      (try simp only [gL] at Eo)
      clear c36
      have H':=k0 H
      clear H
      go_wp2
      (try simp only [← gL])
      first|go_roundg k2|((try (have e_:=FB.out;injection e_ with eu kE atp;subst eu atp));go_roundg k2)
      case measure=>have:=as3.z;have:=bw.z;omega
      case rel=>exact ⟨(zD),(sH),(wrap64 (zG+1)),rs,H',⟨by have:=as3.z;have:=bw.z;omega⟩,⟨by (try simp only [gL]);(with_reducible repeat (first|apply Kd.kT|apply Kd.kU|apply Kd.di));exact mV.z⟩,⟨by (try simp only [gL]);(with_reducible repeat (first|apply Kd.gQ|apply Kd.atB|apply Kd.dK));exact Kd.jD dH.z GQ⟩,⟨by (try simp only [gL]);exact bk⟩,⟨by (try simp only [gL]);exact bk⟩,⟨by (try simp only [gL]);exact bk⟩,⟨by (try simp only [gL]);exact bk⟩,⟨aS (Kd.bQ atn.z (fun _ hk=>hk.2))⟩,⟨bl⟩⟩
     rw [if_pos c36] at H
     have Eo:=decide_eq_true c36
     (try simp only [gL] at Eo)
     clear c36
     replace H:=iS H;obtain ⟨c37,H⟩:=H
     have N4:=decide_eq_true c37
     clear c37
     replace H:=iS H;obtain ⟨c38,H⟩:=H
     have N5:=decide_eq_true c38
     (try simp only [gL] at N5)
     clear c38
     have H':=k0 H
     clear H
     obtain ⟨pP,nK⟩:=iN fP (sH.length:Int)
     obtain ⟨B6,aag,adN,e120,CP,XB,Xj⟩:=b8 (Kd.as4 dH.z).2.2 fP pP nK
     cases e120
     obtain ⟨an7,ags,agc,Wf⟩:=Kd.att dH.z [] fP pP (by first|exact nK|exact oD|(have e_:=(Kd.as4 dH.z).1;omega))
     obtain ⟨asr,rfl,OA⟩:=agc
     have avy:=Wf 0 _ rfl
     rw [Nat.add_zero,show ((Kd.slice 2 (Kd.int .i64))).sz=1 from rfl,Nat.mul_one] at avy
     replace avy:=Option.some.inj (avy.symm.trans CP)
     rw [avy] at OA
     have am2:=k0 (show Kd.R (Kd.int .i64) 2 _ _ _ _ (ai sH fP) from OA)
     clear avy OA
     have S8:=k0 CP
     clear Wf ags
     have ane:=k0 Xj
     have amM:=k0 XB
     clear Xj XB
     replace pP:=eT pP
     replace nK:=eT nK
     go_wp2
     generalize W7:(.slice aag (ai sH fP).length adN:Value)=ak9
     have FB:=k0 W7
     clear W7
     go_loopg [49] k2 (fun kq v49 w'=>∃ (dP:List (List Int)) (mS:Int),v49=.int .i64 mS∧af (dD.l2 kq t109 zD dP a3 zG (t117.length:Int) fP ((ai sH fP).length:Int) mS a0=some (r1,r2))∧af (kq≤k2)∧af (cx w' (.slice (some B6) sH.length tr) fP ak9)∧af (Kd.R (Kd.int .i64) 2 w' w.heap.size (fun k_=>k_ ≠ ay∧k_ ≠ pG) Bn zD)∧af (Kd.S (Kd.slice 2 (Kd.int .i64)) 29 w' NS (fun k_=>some k_ ≠ (Bn:Value).ownBlock∧k_ ≠ ay∧k_ ≠ nc∧k_ ≠ pG) (.slice (some B6) sH.length tr) dP)∧af (w'.heap[ay]?=some (.cells #[.int .i64 a0] 2 (0,0)))∧af (w'.heap[cY]?=some (sO aE atb az atc 26))∧af (w'.heap[nc]?=some (.cells #[(.slice A2 l2.length c2)] 29 (0,0)))∧af (w'.heap[pG]?=some (.cells #[.int .i64 a3] 2 (0,0)))∧af (Kd.S (Kd.slice 2 (Kd.int .i64)) 29 w' w.heap.size (fun k_=>k_ < NS∧some k_ ≠ (Bn:Value).ownBlock) (.slice ud t109.length uC) t109)∧af (Below w.heap.size w w'))
     case atStart=>exact ⟨(sH),(0),rs,H',⟨Nat.le_refl _⟩,⟨by (with_reducible repeat (first|apply cx.alloc|apply cx.drewN|apply cx.drew));first|exact ⟨_,_,_,rfl,(by first|exact of_eq_true pP|exact eW o4.out|omega),(by first|exact of_eq_true nK|exact ct o4.out|(have h_:=of_eq_true nK;omega)|(have h_:=ct o4.out;omega)),S8.z⟩|(rw [← FB.out];exact ⟨_,_,_,rfl,(by first|exact of_eq_true pP|exact eW o4.out|omega),(by first|exact of_eq_true nK|exact ct o4.out|(have h_:=of_eq_true nK;omega)|(have h_:=ct o4.out;omega)),S8.z⟩)⟩,⟨by (try simp only [gL]);(with_reducible repeat (first|apply Kd.kT|apply Kd.kU|apply Kd.di));exact mV.z⟩,⟨by (try simp only [gL]);(with_reducible repeat (first|apply Kd.gQ|apply Kd.atB|apply Kd.dK));exact dH.z⟩,⟨by (try simp only [gL]);exact bk⟩,⟨by (try simp only [gL]);exact bk⟩,⟨by (try simp only [gL]);exact bk⟩,⟨by (try simp only [gL]);exact bk⟩,⟨aS (atn.z)⟩,⟨bl⟩⟩
     case round =>
      clear H'
      obtain ⟨dP,mS,rfl,HA,cS,o4,mV,dH,aa,as5,cL,atA,atn,HB⟩:=hrel
      have lG:=(Kd.as4 dH.z).1
      rw [lG] at dH
      (try simp only [lG])
      (try simp only [lG] at aa)
      (try simp only [lG] at as5)
      (try simp only [lG] at cL)
      (try simp only [lG] at atA)
      (try simp only [lG] at mV)
      cases gk with
      | zero=>exact absurd HA.z (by simp [dD.l2])
      | succ k3 =>
       have H:=HA.z
       clear HA
       simp only [dD.l2] at H
       by_cases c39:mS < ((ai sH fP).length:Int)
       case neg =>
        rw [if_neg c39] at H
        have vT:=decide_eq_false c39
        (try simp only [gL,lG] at vT)
        clear c39
        have H':=k0 H
        clear H
        have ahH:decide (0≤fP)=true:=decide_eq_true (eW o4.out)
        have ahN:decide (fP < (dP.length:Int))=true:=decide_eq_true (by have h_:=ct o4.out;have e_:=(Kd.as4 dH.z).1;omega)
        obtain ⟨mo,ko⟩:=iN fP (dP.length:Int)
        obtain ⟨B7,IY,Ao,e121,oF,wz,wm⟩:=b8 (Kd.as4 dH.z).2.2 fP mo ko
        obtain rfl:B6=B7:=(by injection e121)
        obtain ⟨Od,CE,Cz,wg⟩:=Kd.att dH.z [] fP mo (by first|exact ko|exact oD|(have e_:=(Kd.as4 dH.z).1;omega))
        obtain ⟨Ry,rfl,rC⟩:=Cz
        have l8:=wg 0 _ rfl
        rw [Nat.add_zero,show ((Kd.slice 2 (Kd.int .i64))).sz=1 from rfl,Nat.mul_one] at l8
        replace l8:=Option.some.inj (l8.symm.trans oF)
        rw [l8] at rC
        have pX:=k0 (show Kd.R (Kd.int .i64) 2 _ _ _ _ (ai dP fP) from rC)
        clear l8 rC
        have rm:=k0 oF
        clear wg CE
        have yJ:=k0 wm
        have Mh:=k0 wz
        clear wm wz
        replace mo:=eT mo
        replace ko:=eT ko
        obtain rfl:=qL o4.out rm.z
        go_wp2
        (try simp only [← gL,← lG])
        first|go_roundg k3|((try (have e_:=FB.out;injection e_ with eu kE atp;subst eu atp));go_roundg k3)
        case measure=>have:=as3.z;have:=bw.z;have:=cS.z;omega
        case rel=>exact ⟨(zD),(dP),(wrap64 (fP+1)),rs,H',⟨by have:=as3.z;have:=bw.z;have:=cS.z;omega⟩,⟨by (try simp only [gL]);(try simp only [lG]);(with_reducible repeat (first|apply Kd.kT|apply Kd.kU|apply Kd.di));exact mV.z⟩,⟨by (try simp only [gL]);(try simp only [lG]);(with_reducible repeat (first|apply Kd.gQ|apply Kd.atB|apply Kd.dK));exact dH.z⟩,⟨by (try simp only [gL]);(try simp only [lG]);exact bk⟩,⟨by (try simp only [gL]);(try simp only [lG]);exact bk⟩,⟨by (try simp only [gL]);(try simp only [lG]);exact bk⟩,⟨by (try simp only [gL]);(try simp only [lG]);exact bk⟩,⟨aS (atn.z)⟩,⟨bl⟩⟩
       rw [if_pos c39] at H
       have vT:=decide_eq_true c39
       (try simp only [gL,lG] at vT)
       clear c39
       replace H:=iS H;obtain ⟨c40,H⟩:=H
       have Ci:=decide_eq_true c40
       clear c40
       replace H:=iS H;obtain ⟨c41,H⟩:=H
       have Ep:=decide_eq_true c41
       (try simp only [gL,lG] at Ep)
       clear c41
       by_cases c42:a0=0
       case neg =>
        rw [if_neg c42] at H
        have Cj:=beq_eq_false_iff_ne.mpr c42
        have JQ:=bne_iff_ne.mpr c42
        obtain ⟨atH,rX⟩:=nY ((ai dP fP).set (mS:Int).toNat (Int.tmod (rd (ai dP fP) mS) a0):List Int)
        replace H:(dD.l2 k3 t109 zD (dP.set (fP:Int).toNat atH) a3 zG (t117.length:Int) fP ((ai sH fP).length:Int) (wrap64 (mS+1)) a0)=some (r1,r2):=rH rX.z H
        obtain ⟨IK,FQ⟩:=nY (dP.set (fP:Int).toNat atH:List (List Int))
        replace H:(dD.l2 k3 t109 zD IK a3 zG (t117.length:Int) fP ((ai sH fP).length:Int) (wrap64 (mS+1)) a0)=some (r1,r2):=rH FQ.z H
        have H':=k0 H
        clear H
        have ahH:decide (0≤fP)=true:=decide_eq_true (eW o4.out)
        have ahN:decide (fP < (dP.length:Int))=true:=decide_eq_true (by have h_:=ct o4.out;have e_:=(Kd.as4 dH.z).1;omega)
        obtain ⟨mo,ko⟩:=iN fP (dP.length:Int)
        obtain ⟨B7,IY,Ao,e121,oF,wz,wm⟩:=b8 (Kd.as4 dH.z).2.2 fP mo ko
        obtain rfl:B6=B7:=(by injection e121)
        obtain ⟨Od,CE,Cz,wg⟩:=Kd.att dH.z [] fP mo (by first|exact ko|exact oD|(have e_:=(Kd.as4 dH.z).1;omega))
        obtain ⟨Ry,rfl,rC⟩:=Cz
        have l8:=wg 0 _ rfl
        rw [Nat.add_zero,show ((Kd.slice 2 (Kd.int .i64))).sz=1 from rfl,Nat.mul_one] at l8
        replace l8:=Option.some.inj (l8.symm.trans oF)
        rw [l8] at rC
        have pX:=k0 (show Kd.R (Kd.int .i64) 2 _ _ _ _ (ai dP fP) from rC)
        clear l8 rC
        have rm:=k0 oF
        clear wg CE
        have yJ:=k0 wm
        have Mh:=k0 wz
        clear wm wz
        replace mo:=eT mo
        replace ko:=eT ko
        obtain rfl:=qL o4.out rm.z
        try go_wp2
        have mm:=k0 (Kd.dK atn.z)
        clear atn
        have atn:=mm
        clear mm
        replace mV:=k0 (Kd.di mV.z);replace dH:=k0 (Kd.dK dH.z);replace pX:=k0 (Kd.di pX.z);replace aa:=k0 (dg aa.z);replace as5:=k0 (dg as5.z);replace cL:=k0 (dg cL.z);replace atA:=k0 (dg atA.z);replace yJ:=k0 (Kd.ij yJ.z);replace rm:=k0 ((show (wr.drew).cell? _=some _ from rm.z));replace HB:=k0 (eZ HB.z)
        obtain ⟨mN,kL⟩:=iN mS ((ai dP fP).length:Int)
        obtain ⟨Ed,e122,oG⟩:=Kd.bK (by repeat (first|(with_reducible exact yJ.z)|(with_reducible refine Kd.jO ?_ _)|(with_reducible refine Kd.jP ?_ _)|(with_reducible refine Kd.ij ?_)|exact yJ.z)) mS mN kL
        cases e122
        replace mN:=eT mN
        replace kL:=eT kL
        have Qx:0≤(mS:Int):=oD
        have QY:(mS:Int) < (((ai dP fP).length:Int):Int):=oD
        obtain ⟨OT,ae2,Vj,VO,afR,aoy,SA⟩:=Kd.aun pX.z (by omega)
        (first|cases Vj|(injection Vj with atd atk dM;(first|subst atd|(injection atd with atd;subst atd));subst dM;clear atk))
        (first|simp only [add_plain] at oG|skip)
        have Si:=k0 VO
        have aaT:=k0 SA
        clear VO afR SA
        (first|simp only [add_plain] at oG|skip)
        obtain ⟨ahC,agZ⟩:=Kd.nA 0 pX.z (mS:Int) Qx QY
        replace Qx:=eT Qx
        replace QY:=eT QY
        have ahe:(fP:Int) < (dP.length:Int):=(by have h_:(fP:Int) < ((dP.length:Int):Int):=oD;first|exact h_|(have e_:=(Kd.as4 dH.z).1;omega)|simpa only [List.length_set,List.length_set] using h_)
        obtain ⟨arR,aok,agH,af4,Wu,XQ,V5⟩:=Kd.vP dH.z [] (fP:Int) oD (by first|exact ahe|(have e_:=(Kd.as4 dH.z).1;omega))
        obtain ⟨asG,rfl,GC⟩:=af4
        have Ky:=Wu 0 _ rfl
        rw [Nat.add_zero,show ((Kd.slice 2 (Kd.int .i64))).sz=1 from rfl,Nat.mul_one] at Ky
        replace Ky:=Option.some.inj (Ky.symm.trans rm.z)
        subst Ky
        clear Wu agH
        replace GC:=(show Kd.R (Kd.int .i64) 2 _ _ _ _ (ai dP fP) from GC)
        have DV:=Kd.s8 GC (mS:Int) (Int.tmod (rd (ai dP fP) mS) a0)
        have M9:=k0 (tq DV.2 rm.z (vV (XQ _ (GC.1 _ rfl)).2))
        rw [← rX.z] at DV
        have am9:=k0 DV.1
        have MT:=V5 DV.2 (fun k_ e_=>by injection e_ with e_;subst e_;exact GC.1 _ rfl) (x':=atH) (Kd.ke DV.1)
        rw [← FQ.z] at MT
        have SW:=k0 MT
        clear DV MT V5 XQ
        refine atG (n:=8) (S:=fun w'=>w'.cell? ⟨ay,0,none⟩=some (.int .i64 a0)∧w'.cell? ⟨OT,(mS).toNat,none⟩=some (.int .i64 (rd (ai dP fP) mS))) (ds:=[7]) (ba 8 0) (by kernel_rfl) rfl rfl ⟨dU aa,oG⟩ (fun hHeld=>?_);refine jX dD.akA dD.adu (fun aj bP=>?_)
        generalize wr.drew=RD at mV dH pX aa as5 cL atA yJ rm HB aaT SW M9 agZ oG ahC atn hHeld ⊢
        refine pu 0 (some 52) (ba 8 1) aj (h:=?_)
        refine pu 1 (some 53) (ba 8 3) aj (h:=?_)
        refine pu 2 (some 54) (ba 8 7) aj (h:=?_)
        refine t_ 3 (some 55) (ba 8 15) aj bP hHeld (h:=?_)
        refine t_ 4 (some 56) (ba 8 31) aj bP hHeld (h:=?_)
        refine pu 5 (some 57) (ba 8 63) aj (h:=?_)
        refine pu 6 (some 58) (ba 8 127) aj (h:=?_)
        refine oK (i:=7) (N:=none) (ba 8 255) rfl rfl (atq aj.out (by kernel_rfl)) (by decide) (fun K hK=>?_)
        refine lf (w1:=?_) (by rfl) rfl ?_ ?_
        rotate_left;· go_simp;rfl
        refine hK.out _ _ ?_
        clear hK K
        refine gY (jU aj.out (by kernel_rfl)) ?_
        try go_wp2
        (try simp only [← lG])
        first|go_roundg k3|((try (have e_:=FB.out;injection e_ with eu kE atp;subst eu atp));go_roundg k3)
        case measure=>have:=as3.z;have:=bw.z;have:=cS.z;omega
        case rel=>exact ⟨(IK),(wrap64 (mS+1)),rs,H',⟨by have:=as3.z;have:=bw.z;have:=cS.z;omega⟩,⟨by (with_reducible repeat (first|apply cx.alloc|apply cx.drewN|apply cx.drew));first|exact ⟨_,_,_,rfl,(by first|exact of_eq_true mo|exact eW o4.out|omega),(by first|exact of_eq_true ko|exact ct o4.out|(have h_:=of_eq_true ko;omega)|(have h_:=ct o4.out;omega)),M9.z⟩|(rw [← FB.out];exact ⟨_,_,_,rfl,(by first|exact of_eq_true mo|exact eW o4.out|omega),(by first|exact of_eq_true ko|exact ct o4.out|(have h_:=of_eq_true ko;omega)|(have h_:=ct o4.out;omega)),M9.z⟩)⟩,⟨by (try simp only [gL]);(try simp only [lG]);(with_reducible repeat (first|apply Kd.kT|apply Kd.kU|apply Kd.di));exact Kd.aH (Kd.D9 (p:=⟨OT,(mS:Int).toNat,none⟩) (Kd.TC mV.z rfl ((pX.z.1 _ rfl).1.1)) (fun _ hk=>hk.2) (.int .i64 (Int.tmod (rd (ai dP fP) mS) a0))) (fun _ hk=>⟨hk.1.1,hk.1.2⟩)⟩,⟨by (try simp only [gL]);(try simp only [lG]);(with_reducible repeat (first|apply Kd.gQ|apply Kd.atB|apply Kd.dK));exact SW.out⟩,⟨by (try simp only [gL]);(try simp only [lG]);(with_reducible repeat (first|refine o_ ?_ _|refine dg ?_|refine atW ?_ _));refine yU ?_ (by have h_:=Kd.Jv pX.z (fun _ hk=>hk.1.2.1);intro e_;exact h_ (by rw [e_];rfl)) _;exact bk⟩,⟨by (try simp only [gL]);(try simp only [lG]);(with_reducible repeat (first|refine o_ ?_ _|refine dg ?_|refine atW ?_ _));refine yU ?_ (by have h_:=Kd.jh pX.z as5.z (by decide);intro e_;exact h_ (by rw [e_];rfl)) _;exact bk⟩,⟨by (try simp only [gL]);(try simp only [lG]);(with_reducible repeat (first|refine o_ ?_ _|refine dg ?_|refine atW ?_ _));refine yU ?_ (by have h_:=Kd.jh pX.z cL.z (by decide);intro e_;exact h_ (by rw [e_];rfl)) _;exact bk⟩,⟨by (try simp only [gL]);(try simp only [lG]);(with_reducible repeat (first|refine o_ ?_ _|refine dg ?_|refine atW ?_ _));refine yU ?_ (by have h_:=Kd.Jv pX.z (fun _ hk=>hk.1.2.2.2);intro e_;exact h_ (by rw [e_];rfl)) _;exact bk⟩,⟨aS (Kd.lW (p:=⟨OT,(mS:Int).toNat,none⟩) atn.z (fun k_ hk e_=>by have GL:=hk.1;have J8:=Si.out;rw [e_] at GL;exact absurd GL (Nat.not_lt.mpr J8)) (.int .i64 (Int.tmod (rd (ai dP fP) mS) a0)))⟩,⟨by repeat (first|(with_reducible first|exact HB.z|apply eH|apply atz|apply eZ|refine o9 ?_ (Nat.le_trans GQ Si.out)|refine o9 ?_ cG.z|refine o9 ?_ q6.z|refine o9 ?_ BN.z|refine o9 ?_ I8.z)|exact HB.z)⟩⟩
       rw [if_pos c42] at H
       exact absurd H (by simp)
end Go.Proofs.Ytapnggjaeehpdaa.B
/- Set with little white space, by a program. -/
