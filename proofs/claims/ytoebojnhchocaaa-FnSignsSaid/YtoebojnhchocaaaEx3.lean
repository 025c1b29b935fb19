/- The functions that one law reaches, each as a Lean function, and that Go's call comes to what it says. Condition of each: that the Lean function answers (is not none). -/
import Derived.Test.YtoebojnhchocaaaEx0
import Derived.Test.YtoebojnhchocaaaEx1
import Derived.Test.YtoebojnhchocaaaEx2
namespace Go.Proofs.Ytoebojnhchocaaa.E
open Go.RowKit Go.Proofs.bY.apf Go.Proofs.bY.ko Go.Proofs.bY.kN
attribute [local go_sem] max2_int min2_int max_two min_two max_three min_three max_four min_four   -- for this text's walks alone
set_option linter.unusedVariables false
set_option linter.unusedSimpArgs false
set_option maxHeartbeats 8000000
set_option maxRecDepth 100000
/-! ### F162: function 162 -/
mutual
def ic.l0 : Nat → List (List Int) → Int → Int → Int → List (List Int) → Int → List (List Int) → Int → List (List Int) → Option (Int × (List (List Int)))
 | 0,_,_,_,_,_,_,_,_,_=>none
 | k+1,iA,jb,k9,fG,eH,vr,aqI,y8,aqg=>if k9 < jb then (if 0≤k9 then (if k9 < (iA.length:Int) then (ic.l1 k k9 (av iA k9) iA jb k9 vr 0 fG eH vr aqI y8 aqg) else (none)) else (none)) else (some (y8,aqg))
def ic.l1 : Nat → Int → List Int → List (List Int) → Int → Int → Int → Int → Int → List (List Int) → Int → List (List Int) → Int → List (List Int) → Option (Int × (List (List Int)))
 | 0,_,_,_,_,_,_,_,_,_,_,_,_,_=>none
 | k+1,x4,x5,iA,jb,k9,nR,CV,fG,eH,vr,aqI,y8,aqg=>if CV < nR then (if 0 < (x5.length:Int) then (if 1 < (x5.length:Int) then (if 0≤x4 then (if x4 < (aqI.length:Int) then (if 0≤CV then (if CV < ((av aqI x4).length:Int) then (if aqg.length < 5864062014805 then (ic.l1 k x4 x5 iA jb k9 nR (wrap64 (CV+1)) fG eH vr aqI y8 (aqg ++ [(([wrap64 ((wrap64 ((rd x5 0) * vr))+CV),wrap64 ((wrap64 ((rd x5 1) * vr))+(rd (av aqI x4) CV))]:List Int))])) else (none)) else (none)) else (none)) else (none)) else (none)) else (none)) else (none)) else (ic.l0 k iA jb (wrap64 (k9+1)) fG eH vr aqI y8 aqg)
end
def ic.f (k:Nat) (ah:Int) (af:List (List Int)) (bM:Int) (bL:List (List Int)):Option (Int × (List (List Int))):=ic.l0 k af (af.length:Int) 0 ah af bM bL (wrap64 (ah * bM)) ([]:List (List Int))
def ic.T8:Bool × List (List Nat × List Nat):=(true,[([],[]),([0],[0]),([],[]),([2],[2]),([3],[3]),([],[]),([5],[5]),([4,6],[4,6]),([],[]),([7,8],[7,8]),([],[]),([10],[10]),([11],[11]),([],[]),([13],[13]),([12,14],[12,14]),([],[]),([16],[16]),([],[]),([17,18],[17,18]),([19],[19]),([],[]),([20,21],[20,21]),([22],[22]),([15,23],[15,23]),([9,24],[9,24]),([25],[25]),([1,26],[1,26]),([0,1,2,3,4,5,6,7,8,9,10,11,12,13,14,15,16,17,18,19,20,21,22,23,24,25,26,27],[]),([28,27,27,0,1,2,3,4,5,6,7,8,9,10,11,12,13,14,15,16,17,18,19,20,21,22,23,24,25,26,27],[27,28])])
def ic.B8:List Nat:=[0,1,0,4,12,0,32,124,0,508,0,1024,3072,0,8192,31744,0,65536,0,458752,983040,0,4128768,8323072,16776192,33554428,67108860,134217727,268435455,536870911]
theorem ic.Nf:iP .any (opsOf Try.f162 8)=ic.T8:=by kernel_rfl
theorem ic.JQ:nA ic.T8.2 ic.B8=true:=by kernel_rfl
theorem ic.calls (k : Nat) (ah : Int) (aT : Option Addr) (aoW : Nat) (af : List (List Int)) (bM : Int) (fV : Option Addr) (fT : Nat) (bL : List (List Int)) (r1 : Int) (r2 : List (List Int)) (w : World) (cR : Kd.C (Kd.slice 2 (Kd.int .i64)) w aT af.length af) (cX : af.length ≤ aoW) (apV : Kd.C (Kd.slice 2 (Kd.int .i64)) w fV bL.length bL) (rB : bL.length ≤ fT) (h : ic.f k ah af bM bL = some (r1, r2)) :
  Calls Try.prog 162 #[.agg #[.int .i64 ah,.slice aT af.length aoW,.int .i64 bM,.slice fV bL.length fT]] w fun e w'=>∃ eM:Value,e=.returned (.agg #[.int .i64 r1,eM])∧Kd.S (Kd.slice 2 (Kd.int .i64)) 28 w' w.heap.size (fun _=>True) eM r2∧Below w.heap.size w w':=by
 have wo:=Try.underlying33
 have iX:=Try.underlying31
 have ao6:=k0 cR
 have cV:=k0 cX
 clear cR cX
 have pq:=k0 apV
 have apJ:=k0 rB
 clear apV rB
 have HB:=k0 (Below.refl w.heap.size w)
 have H:(ic.l0 k af (af.length:Int) 0 ah af bM bL (wrap64 (ah * bM)) ([]:List (List Int)))=some (r1,r2):=h
 clear h
 have H':=k0 H
 clear H
 go_enter Try.func162,Try.ntmps162
 go_wp2_with (first|((with_reducible refine bp (N:=1) rfl ?_);refine bR 1 #[.int .i64 ah,.slice aT af.length aoW,.int .i64 bM,.slice fV bL.length fT] 33 ?_;intro aoV hg w2 aE hb;have aa:=k0 (aE);have bB:=gW hg (aoS bl);have aX:=bB;replace HB:=k0 (aH bl hb);clear hb aE hg)|((with_reducible refine bp (N:=2) rfl ?_);refine bR 2 #[.int .i64 0,.slice none 0 0] 31 ?_;intro ct hg w3 aE hb;have ak:=k0 (aE);have fA:=gW hg (aoS bl);have fy:=fA;replace HB:=k0 (aH bl hb);have cP:=nL hg aa;have dJ:=nG cP;replace aa:=kB aa hb;clear hb aE hg;have Sc:=cP.z;have Sp:=dJ.z;have GJ:=aQ aa;have GK:=aoT aa;have ai6:=ao_ aa;have ai7:=ec aa;have GV:=bF aa 0;have GW:=bF aa 1;have ale:=bF aa 2;have alf:=bF aa 3)|((with_reducible refine bp (N:=3) rfl ?_);refine bR 3 #[.int .i64 0,.slice none 0 0] 31 ?_;intro nk hg w6 aE hb;have aq:=kB aa hb;have au:=kB ak hb;have ax:=k0 (aH bl hb);have aA:=k0 (aE);have aG:=k0 ((by rw [hg];exact (aoS bl):w.heap.size≤nk));have aM:=k0 ((by rw [hg];exact (aoS bl):w.heap.size≤nk));have bu:=nL hg aa;have cE:=nG bu;have ao8:=nL hg ak;have cG:=nG ao8;clear aa;clear ak;clear HB;have aa:=aq;have ak:=au;have HB:=ax;have ao7:=aA;have I5:=aG;have I3:=aM;have nX:=bu;have rW:=cE;have oL:=ao8;have sX:=cG;clear aq au ax aA aG aM bu cE ao8 cG;clear hb aE hg;have EN:=rW.z;have EO:=nX.z;have Cb:=sX.z;have Cd:=oL.z;have v_:=aQ ao7;have we:=aoT ao7;have xp:=bF ao7 0;have wh:=bF ao7 1;have uD:=aQ aa;have uE:=aoT aa;have aat:=ao_ aa;have aau:=ec aa;have uF:=bF aa 0;have uG:=bF aa 1;have abe:=bF aa 2;have abf:=bF aa 3))
 go_loopg [18] k (fun kq Fp w'=>∃ (dZ:Int) (apN:List (List Int)) (u104001:Value),Fp=.int .i64 dZ∧aj (ic.l0 kq af (af.length:Int) dZ ah af bM bL (wrap64 (ah * bM)) apN=some (r1,r2))∧aj (kq≤k)∧aj (Kd.S (Kd.slice 2 (Kd.int .i64)) 28 w' w.heap.size (fun _=>True) u104001 apN)∧aj (w'.heap[aoV]?=some (.cells #[.int .i64 ah,(.slice aT af.length aoW),.int .i64 bM,(.slice fV bL.length fT)] 33 (0,0)))∧aj (w'.heap[ct]?=some (.cells #[.int .i64 0,(.slice none 0 0)] 31 (0,0)))∧aj (w'.heap[nk]?=some (.cells #[.int .i64 (wrap64 (ah * bM)),u104001] 31 (0,0)))∧aj (Below w.heap.size w w'))
 case atStart=>exact ⟨(0),(([]:List (List Int))),(.slice none 0 0),rs,H',⟨Nat.le_refl _⟩,⟨by first|exact Kd.lf _ _ _ _ _|exact Kd.lG _ _ _ _ _|exact Kd.apy _ _ _ _ _|exact Kd.lH _ _ _ _ _|exact Kd.kO _ _ _ _ _⟩,⟨by (with_reducible repeat (first|refine aoU ?_ _|refine aJ ?_|refine aoQ ?_ _));refine bW ?_ nX.z _;(with_reducible repeat (first|refine aoU ?_ _|refine aJ ?_|refine aoQ ?_ _));refine bW ?_ nX.z _;exact bk⟩,⟨by (with_reducible repeat (first|refine aoU ?_ _|refine aJ ?_|refine aoQ ?_ _));refine bW ?_ oL.z _;(with_reducible repeat (first|refine aoU ?_ _|refine aJ ?_|refine aoQ ?_ _));refine bW ?_ oL.z _;exact bk⟩,⟨by (with_reducible repeat (first|refine aoU ?_ _|refine aJ ?_|refine aoQ ?_ _));refine bE (cs:=#[.int .i64 (wrap64 (ah * bM)),.slice none 0 0]) ?_ 1 _ rfl;(with_reducible repeat (first|refine aoU ?_ _|refine aJ ?_|refine aoQ ?_ _));refine bE (cs:=#[.int .i64 0,.slice none 0 0]) ?_ 0 _ rfl;exact bk⟩,⟨bl⟩⟩
 case round =>
  clear H'
  obtain ⟨dZ,apN,u104001,rfl,HA,bx,jo,aa,ak,ao7,HB⟩:=hrel
  cases gk with
  | zero=>exact absurd HA.z (by simp [ic.l0])
  | succ k1 =>
   have H:=HA.z
   clear HA
   simp only [ic.l0] at H
   by_cases c11:dZ < (af.length:Int)
   case neg =>
    rw [if_neg c11] at H
    have ku:decide (dZ < (af.length:Int))=false:=decide_eq_false c11
    clear c11
    simp only [Option.some.injEq,Prod.mk.injEq] at H
    obtain ⟨rfl,rfl⟩:=H
    have ab5:=rW.z
    have acv:=nX.z
    have Sb:=sX.z
    have So:=oL.z
    have GF:=aQ ao7
    have GG:=aoT ao7
    have GQ:=bF ao7 0
    have GR:=bF ao7 1
    have Lx:=dJ.z
    have LB:=cP.z
    have GH:=aQ ak
    have GI:=aoT ak
    have GS:=bF ak 0
    have GU:=bF ak 1
    obtain ⟨ep,eo,D9⟩:=Kd.apc jo.z
    subst D9
    go_wp2
    refine bodyPost_ret (results_cell_row rfl _ _ ct 31 #[.int .i64 (wrap64 (ah * bM)),.slice ep apN.length eo] (0,0) _ rfl (by (with_reducible repeat (first|refine aoU ?_ _|refine aJ ?_|refine aoQ ?_ _));refine bE (cs:=#[.int .i64 (wrap64 (ah * bM)),.slice none 0 0]) ?_ 1 _ rfl;(with_reducible repeat (first|refine aoU ?_ _|refine aJ ?_|refine aoQ ?_ _));refine bE (cs:=#[.int .i64 0,.slice none 0 0]) ?_ 0 _ rfl;exact bk) Try.underlying31 rfl (by kernel_rfl)) rfl ?_
    exact ⟨_,eR,by (with_reducible repeat (first|apply Kd.cM|apply Kd.cI|apply Kd.cr));exact Kd.bq (gS 1 (.slice ep apN.length eo) (gS 0 (.int .i64 (wrap64 (ah * bM))) (tS jo ak))) (fun _ hk=>trivial),bl⟩
   rw [if_pos c11] at H
   have ku:=decide_eq_true c11
   clear c11
   replace H:=iS H;obtain ⟨c12,H⟩:=H
   have qJ:=decide_eq_true c12
   clear c12
   replace H:=iS H;obtain ⟨c13,H⟩:=H
   have ru:=decide_eq_true c13
   clear c13
   have H':=k0 H
   clear H
   have dR:0≤(dZ:Int):=oD
   have dS:dZ < (af.length:Int):=oD
   obtain ⟨jY,A_,Bz,e104,dY,pO,pN⟩:=fW ao6.z dZ dR dS
   cases e104
   replace dY:=hbc HB dY
   have rU:=k0 pN
   have Bj:=k0 pO
   clear pN pO
   replace dR:=eq_true dR
   replace dS:=eq_true dS
   have R3:=cP.z
   have Sf:=dJ.z
   have R4:=nX.z
   have Sg:=rW.z
   have BS:=aQ aa
   have BU:=aoT aa
   have aaC:=ao_ aa
   have aaD:=ec aa
   have B3:=bF aa 0
   have aqP:=bF aa 1
   have abn:=bF aa 2
   have abo:=bF aa 3
   go_wp2
   go_loopg [25] k1 (fun kq v25 w'=>∃ (mJ:Int) (y9:List (List Int)) (u104001:Value),v25=.int .i64 mJ∧aj (ic.l1 kq dZ (av af dZ) af (af.length:Int) dZ bM mJ ah af bM bL (wrap64 (ah * bM)) y9=some (r1,r2))∧aj (kq≤k1)∧aj (Kd.S (Kd.slice 2 (Kd.int .i64)) 28 w' w.heap.size (fun _=>True) u104001 y9)∧aj (w'.heap[aoV]?=some (.cells #[.int .i64 ah,(.slice (some jY) af.length aoW),.int .i64 bM,(.slice fV bL.length fT)] 33 (0,0)))∧aj (w'.heap[ct]?=some (.cells #[.int .i64 0,(.slice none 0 0)] 31 (0,0)))∧aj (w'.heap[nk]?=some (.cells #[.int .i64 (wrap64 (ah * bM)),u104001] 31 (0,0)))∧aj (Below w.heap.size w w'))
   case atStart=>exact ⟨(0),(apN),(u104001),rs,H',⟨Nat.le_refl _⟩,⟨aS (jo.z)⟩,⟨bk⟩,⟨bk⟩,⟨bk⟩,⟨bl⟩⟩
   case round =>
    clear H'
    obtain ⟨mJ,y9,u104001,rfl,HA,cD,jo,aa,ak,ao7,HB⟩:=hrel
    cases gk with
    | zero=>exact absurd HA.z (by simp [ic.l1])
    | succ k2 =>
     have H:=HA.z
     clear HA
     simp only [ic.l1] at H
     by_cases c17:mJ < bM
     case neg =>
      rw [if_neg c17] at H
      have ur:decide (mJ < bM)=false:=decide_eq_false c17
      clear c17
      have H':=k0 H
      clear H
      go_wp2
      go_roundg k2
      case measure=>have:=bx.z;have:=cD.z;omega
      case rel=>exact ⟨(wrap64 (dZ+1)),(y9),(u104001),rs,H',⟨by have:=bx.z;have:=cD.z;omega⟩,⟨aS (jo.z)⟩,⟨bk⟩,⟨bk⟩,⟨bk⟩,⟨bl⟩⟩
     rw [if_pos c17] at H
     have ur:=decide_eq_true c17
     clear c17
     replace H:=iS H;obtain ⟨c18,H⟩:=H
     have apY:=decide_eq_true c18
     have Px:decide (0 < (av af dZ).length)=true:=decide_eq_true (by omega)
     clear c18
     replace H:=iS H;obtain ⟨c19,H⟩:=H
     have aqp:=decide_eq_true c19
     have Gh:decide (1 < (av af dZ).length)=true:=decide_eq_true (by omega)
     clear c19
     replace H:=iS H;obtain ⟨c20,H⟩:=H
     have BA:=decide_eq_true c20
     clear c20
     replace H:=iS H;obtain ⟨c21,H⟩:=H
     have yl:=decide_eq_true c21
     clear c21
     replace H:=iS H;obtain ⟨c22,H⟩:=H
     have DS:=decide_eq_true c22
     clear c22
     replace H:=iS H;obtain ⟨c23,H⟩:=H
     have DT:=decide_eq_true c23
     clear c23
     obtain ⟨mW,om⟩:∃ y_:List Int,y_=(([wrap64 ((wrap64 ((rd (av af dZ) 0) * bM))+mJ),wrap64 ((wrap64 ((rd (av af dZ) 1) * bM))+(rd (av bL dZ) mJ))]:List Int)):=⟨_,rfl⟩
     replace H:(if y9.length < 5864062014805 then (ic.l1 k2 dZ (av af dZ) af (af.length:Int) dZ bM (wrap64 (mJ+1)) ah af bM bL (wrap64 (ah * bM)) (y9 ++ [mW])) else (none))=some (r1,r2):=rH om H
     have sZ:=k0 om
     clear om
     replace H:=iS H;obtain ⟨c24,H⟩:=H
     have Jt:=k0 c24
     clear c24
     obtain ⟨o_,oq⟩:∃ y_:List (List Int),y_=(y9 ++ [mW]):=⟨_,rfl⟩
     replace H:(ic.l1 k2 dZ (av af dZ) af (af.length:Int) dZ bM (wrap64 (mJ+1)) ah af bM bL (wrap64 (ah * bM)) o_)=some (r1,r2):=rH oq H
     have vP:=k0 oq
     clear oq
     have H':=k0 H
     clear H
     try go_wp2
     replace jo:=k0 (Kd.cr jo.z);replace aa:=k0 (aJ aa.z);replace ak:=k0 (aJ ak.z);replace ao7:=k0 (aJ ao7.z);replace HB:=k0 (aZ HB.z)
     have gD:0≤(0:Int):=(by omega)
     have gl:0 < ((av af dZ).length:Int):=oD
     obtain ⟨lg,e105,gj⟩:=Kd.cN rU.z 0 gD gl
     have yN:=gj
     (try rw [show ((0:Int)).toNat=0 from rfl] at yN)
     (try rw [show 0 * 1=0 from rfl] at yN)
     (try rw [Addr.add_zero'] at yN)
     cases e105
     have AU:(0 < (av af dZ).length)=True:=eq_true (by omega)
     (try rw [show ((0:Int)).toNat=0 from rfl] at gj)
     (try rw [Addr.add_zero'] at gj)
     replace gj:=hbc HB gj
     replace gD:=eq_true gD
     replace gl:=eq_true gl
     have apk:0≤(1:Int):=(by omega)
     have gL:1 < ((av af dZ).length:Int):=oD
     obtain ⟨pH,e106,gV⟩:=Kd.cN rU.z 1 apk gL
     have yO:=gV
     (try rw [show ((1:Int)).toNat=1 from rfl] at yO)
     (try rw [show 1 * 1=1 from rfl] at yO)
     (try simp only [Nat.reduceMul,Nat.reduceEqDiff,Go.Addr.add,↓reduceIte] at yO)
     obtain rfl:lg=pH:=(by injection e106)
     (try simp only [show (1:Int).toNat=1 from rfl,Nat.reduceMul,Nat.reduceEqDiff,Go.Addr.add,↓reduceIte] at gV)
     have Ff:(1 < (av af dZ).length)=True:=eq_true (by omega)
     (try rw [show ((1:Int)).toNat=1 from rfl] at gV)
     replace gV:=hbc HB gV
     replace apk:=eq_true apk
     replace gL:=eq_true gL
     have ji:0≤(dZ:Int):=oD
     have jk:dZ < (bL.length:Int):=oD
     obtain ⟨ni,Ba,zP,e107,iN,rE,rC⟩:=fW pq.z dZ ji jk
     have pR:=iN
     cases e107
     replace iN:=hbc HB iN
     have t_:=k0 rC
     have Dd:=k0 rE
     clear rC rE
     replace ji:=eq_true ji
     replace jk:=eq_true jk
     have iw:0≤(mJ:Int):=oD
     have iy:mJ < ((av bL dZ).length:Int):=oD
     obtain ⟨qG,e108,ij⟩:=Kd.cN t_.z mJ iw iy
     have sw:=ij
     cases e108
     replace ij:=hbc HB ij
     replace iw:=eq_true iw
     replace iy:=eq_true iy
     refine apA (n:=30) (S:=fun w'=>w'.cell? ⟨nk,0,none⟩=some (.int .i64 (wrap64 (ah * bM)))∧w'.cell? ⟨nk,1,none⟩=some (u104001)∧w'.cell? ⟨aoV,0,none⟩=some (.int .i64 ah)∧w'.cell? ⟨aoV,1,none⟩=some (.slice (some jY) af.length aoW)∧w'.cell? ⟨aoV,2,none⟩=some (.int .i64 bM)∧w'.cell? ⟨aoV,3,none⟩=some (.slice (some ni) bL.length fT)∧w'.cell? lg=some (.int .i64 (rd (av af dZ) 0))∧w'.cell? ⟨lg.block,lg.off+1,none⟩=some (.int .i64 (rd (av af dZ) 1))∧w'.cell? (ni.add (dZ).toNat)=some (.slice (some qG) (av bL dZ).length zP)∧w'.cell? (qG.add (mJ).toNat)=some (.int .i64 (rd (av bL dZ) mJ))) (ds:=[29]) (ba 30 0) (by kernel_rfl) rfl rfl ⟨aQ ao7,aoT ao7,aQ aa,aoT aa,ao_ aa,ec aa,(hbc HB yN),(hbc HB yO),(hbc HB pR),(hbc HB sw)⟩ (fun hHeld=>?_);refine nB ic.Nf ic.JQ (fun az dA=>?_)
     generalize wr.drew=y5 at jo aa ak ao7 HB t_ gj gV iN ij hHeld ⊢
     refine pu 0 (some 28) (ba 30 1) az (h:=?_)
     refine pu 2 (some 30) (ba 30 5) az (h:=?_)
     refine pu 3 (some 31) (ba 30 13) az (h:=?_)
     refine pu 5 (some 33) (ba 30 45) az (h:=?_)
     refine pu 8 (some 36) (ba 30 301) az (h:=?_)
     refine pu 10 (some 38) (ba 30 1325) az (h:=?_)
     refine pu 11 (some 39) (ba 30 3373) az (h:=?_)
     refine pu 13 (some 41) (ba 30 11565) az (h:=?_)
     refine pu 16 (some 44) (ba 30 77101) az (h:=?_)
     refine pu 18 (some 46) (ba 30 339245) az (h:=?_)
     refine pu 21 (some 49) (ba 30 2436397) az (h:=?_)
     refine ta 1 (some 29) (ba 30 2436399) az dA hHeld (hy:=Or.inl ⟨by rfl,by rintro w' ⟨s0,s1,s2,s3,s4,s5,s6,s7,s8,s9⟩;go_simp;with_reducible rfl⟩) (h:=?_)
     refine ta 4 (some 32) (ba 30 2436415) az dA hHeld (hy:=Or.inl ⟨by rfl,by rintro w' ⟨s0,s1,s2,s3,s4,s5,s6,s7,s8,s9⟩;go_simp;with_reducible rfl⟩) (h:=?_)
     refine ta 6 (some 34) (ba 30 2436479) az dA hHeld (hy:=Or.inl ⟨by rfl,by rintro w' ⟨s0,s1,s2,s3,s4,s5,s6,s7,s8,s9⟩;go_simp;with_reducible rfl⟩) (h:=?_)
     refine pu 7 (some 35) (ba 30 2436607) az (h:=?_)
     refine pu 9 (some 37) (ba 30 2437119) az (h:=?_)
     refine ta 12 (some 40) (ba 30 2441215) az dA hHeld (hy:=Or.inl ⟨by rfl,by rintro w' ⟨s0,s1,s2,s3,s4,s5,s6,s7,s8,s9⟩;go_simp;with_reducible rfl⟩) (h:=?_)
     refine ta 14 (some 42) (ba 30 2457599) az dA hHeld (hy:=Or.inl ⟨by rfl,by rintro w' ⟨s0,s1,s2,s3,s4,s5,s6,s7,s8,s9⟩;go_simp;with_reducible rfl⟩) (h:=?_)
     refine pu 15 (some 43) (ba 30 2490367) az (h:=?_)
     refine ta 17 (some 45) (ba 30 2621439) az dA hHeld (hy:=Or.inl ⟨by rfl,by rintro w' ⟨s0,s1,s2,s3,s4,s5,s6,s7,s8,s9⟩;go_simp;with_reducible rfl⟩) (h:=?_)
     refine pu 19 (some 47) (ba 30 3145727) az (h:=?_)
     refine ta 20 (some 48) (ba 30 4194303) az dA hHeld (hy:=Or.inl ⟨by rfl,by rintro w' ⟨s0,s1,s2,s3,s4,s5,s6,s7,s8,s9⟩;go_simp;with_reducible rfl⟩) (h:=?_)
     refine pu 22 (some 50) (ba 30 8388607) az (h:=?_)
     refine ta 23 (some 51) (ba 30 16777215) az dA hHeld (hy:=Or.inl ⟨by rfl,by rintro w' ⟨s0,s1,s2,s3,s4,s5,s6,s7,s8,s9⟩;go_simp;with_reducible rfl⟩) (h:=?_)
     refine pu 24 (some 52) (ba 30 33554431) az (h:=?_)
     refine ja (i:=25) (N:=some 53) (ba 30 67108863) rfl rfl (hO az.out (by kernel_rfl)) (by decide) (fun K hK=>?_)
     refine Kd.JF (Kd.int .i64) _ 2 ?hg (N:=53) ?hd (xs:=([wrap64 ((wrap64 ((rd (av af dZ) 0) * bM))+mJ),wrap64 ((wrap64 ((rd (av af dZ) 1) * bM))+(rd (av bL dZ) mJ))]:List Int)) (inner:=[.int .i64 (wrap64 ((wrap64 ((rd (av af dZ) 0) * bM))+mJ)),.int .i64 (wrap64 ((wrap64 ((rd (av af dZ) 1) * bM))+(rd (av bL dZ) mJ)))]) (ok:=fun _=>True) (b_:=fun _=>True) ?hr ?hp (fun _ hk=>hk) trivial (Below.refl _ _) (Nat.le_refl _) (by simp) ?_;(case hd=>rfl);(case hg=>rfl);(case hr=>first|(go_simp;done)|(go_simp;rfl));(case hp=>exact (bh.one (show Kd.M (Kd.int .i64) _ _ _ (wrap64 ((wrap64 ((rd (av af dZ) 0) * bM))+mJ)) [.int .i64 (wrap64 ((wrap64 ((rd (av af dZ) 0) * bM))+mJ))] from rfl) (bh.one (show Kd.M (Kd.int .i64) _ _ _ (wrap64 ((wrap64 ((rd (av af dZ) 1) * bM))+(rd (av bL dZ) mJ))) [.int .i64 (wrap64 ((wrap64 ((rd (av af dZ) 1) * bM))+(rd (av bL dZ) mJ)))] from rfl) (bh.none _ _))))
     intro wD aqF rG hb cJ cK
     clear cJ cK
     (first|rw [← sZ.z] at rG|(simp only [Int.reduceToNat] at rG;rw [← sZ.z] at rG))
     have aq:=k0 (Kd.cC (aS jo.z) (Kd.aU rG) hb)
     have au:=k0 (Kd.cU rG (aoS bl))
     have ax:=kB aa hb
     have aA:=kB ak hb
     have aG:=kB ao7 hb
     have aM:=k0 (aH bl hb)
     clear jo
     clear aa
     clear ak
     clear ao7
     clear HB
     have jo:=aq
     have nT:=au
     have aa:=ax
     have ak:=aA
     have ao7:=aG
     have HB:=aM
     clear aq au ax aA aG aM
     clear hb rG
     obtain ⟨api,gJ,yw⟩:=Kd.dM nT.z
     (first|subst yw|(injection yw with gv apr gw;have j4:=gv.symm;have j5:=gw.symm;clear gv apr gw;subst j4;subst j5))
     refine hK.out _ _ ⟨aQ ao7,aoT ao7,aQ aa,aoT aa,ao_ aa,ec aa,(hbc HB yN),(hbc HB yO),(hbc HB pR),(hbc HB sw)⟩ (fun hHeld=>?_)
     clear hK K
     refine jh (a':=?_) ?_ ?_
     rotate_left;· show Act.put _ (some 53) _=_;simp only [Act.put,zI,zZ,zS,cm,cO];rfl
     refine ja (i:=26) (N:=some 54) (ba 30 134217727) rfl rfl (hO az.out (by kernel_rfl)) (by decide) (fun K hK=>?_)
     refine Fq (w1:=?_) (v:=?_) (by rfl) rfl ?_ ?_
     rotate_left 2
     ·go_simp
      constructor
      ·rfl
      ·rfl
     refine hK.out _ _ ⟨(fq (aoQ ao7.z _) 0).trans rfl,(fq (aoQ ao7.z _) 1).trans rfl,(fq (aoQ aa.z _) 0).trans rfl,(fq (aoQ aa.z _) 1).trans rfl,(fq (aoQ aa.z _) 2).trans rfl,(fq (aoQ aa.z _) 3).trans rfl,(World.cell?_alloc_lt _ _ _ (World.block_lt_of_cell? _ _ ((hbc HB yN)))).trans ((hbc HB yN)),(World.cell?_alloc_lt _ _ _ (World.block_lt_of_cell? _ _ ((hbc HB yO)))).trans ((hbc HB yO)),(World.cell?_alloc_lt _ _ _ (World.block_lt_of_cell? _ _ ((hbc HB pR)))).trans ((hbc HB pR)),(World.cell?_alloc_lt _ _ _ (World.block_lt_of_cell? _ _ ((hbc HB sw)))).trans ((hbc HB sw))⟩ (fun hHeld=>?_)
     clear hK K
     refine jh (a':=?_) ?_ ?_
     rotate_left;· show Act.put _ (some 54) _=_;simp only [Act.put,zI,zZ,zS,cm,cO];rfl
     refine ja (i:=27) (N:=some 55) (ba 30 268435455) rfl rfl (hO az.out (by kernel_rfl)) (by decide) (fun K hK=>?_)
     refine Kd.F5 (Kd.slice 2 (Kd.int .i64)) (w0:=w) w.heap.size (by rfl) (.tmp 29) (.tmp 54) 22 28 (.slice none 0 0) 24 rfl Try.underlying22 qX rfl (by decide) (by omega) u104001 y9 mW [.slice api mW.length gJ] (fun _=>True) (fun k_=>some k_=(.slice api mW.length gJ:Value).ownBlock) rfl rfl ?aP (fun k_ bZ=>((Kd.aoY (ok':=fun k_=>((fun _=>True)) k_∧some k_ ≠ (u104001:Value).ownBlock) (Kd.iU (nT.z) (Kd.iE jo.z) (by decide)) (fun k_ hk=>⟨trivial,hk.2⟩))).1 k_ bZ.symm) ?aF ?aO ?aB ?aS ?aL ?_
     (case aP=>exact Kd.apB (Kd.aoY (Kd.mh rfl (Kd.aoY (ok':=fun k_=>((fun _=>True)) k_∧some k_ ≠ (u104001:Value).ownBlock) (Kd.iU (nT.z) (Kd.iE jo.z) (by decide)) (fun k_ hk=>⟨trivial,hk.2⟩))) (fun _ h_=>h_)))
     (case aB=>exact bl)
     (case aF=>exact (fun _ _=>trivial))
     (case aO=>exact (by (with_reducible repeat (first|apply Kd.cM|apply Kd.cI|apply Kd.cr));exact Kd.bq jo.z (fun k_ hk=>⟨trivial,fun e_=>hk.2 e_⟩)))
     (case aS=>exact (aoS bl))
     (case aL=>have:=Jt.out;omega)
     intro Ni aqG ho hb hg ao1
     rw [← vP.z] at ho
     have aq:=k0 (fl (aB aa.z) hg (Kd.jz jo.z aa.z (by decide)))
     have au:=k0 (fl (aB ak.z) hg (Kd.jz jo.z ak.z (by decide)))
     have ax:=k0 (fl (aB ao7.z) hg (Kd.jz jo.z ao7.z (by decide)))
     have aA:=k0 (hb)
     have aG:=k0 (ho)
     clear aa
     clear ak
     clear ao7
     clear HB
     clear jo
     clear nT
     have aa:=aq
     have ak:=au
     have ao7:=ax
     have HB:=aA
     have sU:=aG
     clear aq au ax aA aG
     clear ho hb hg ao1
     obtain ⟨hU,gK,aqe⟩:=Kd.apc sU.z
     (first|subst aqe|(injection aqe with gv apr gw;have j4:=gv.symm;have j5:=gw.symm;clear gv apr gw;subst j4;subst j5))
     refine hK.out _ _ ⟨aQ ao7,aoT ao7,aQ aa,aoT aa,ao_ aa,ec aa,(hbc HB yN),(hbc HB yO),(hbc HB pR),(hbc HB sw)⟩ (fun hHeld=>?_)
     clear hK K
     refine jh (a':=?_) ?_ ?_
     rotate_left;· show Act.put _ (some 55) _=_;simp only [Act.put,zI,zZ,zS,cm,cO];rfl
     refine pu 28 (some 56) (ba 30 536870911) az (h:=?_)
     refine uW (i:=29) (N:=none) (ba 30 1073741823) rfl rfl (hO az.out (by kernel_rfl)) (by decide) (fun K hK=>?_)
     have anZ:=aoT ao7
     have ajY:=bF ao7 1
     have anU:=nX.z
     have anV:=oL.z
     have aml:=rW.z
     have amm:=sX.z
     refine tG (w1:=?_) (by rfl) rfl ?_ ?_
     rotate_left;· go_simp;rfl
     refine hK.out _ _ ?_
     clear hK K
     refine lY (nj az.out (by kernel_rfl)) ?_
     try go_wp2
     go_roundg k2
     case measure=>have:=bx.z;have:=cD.z;omega
     case rel=>exact ⟨(wrap64 (mJ+1)),(o_),(.slice hU o_.length gK),rs,H',⟨by have:=bx.z;have:=cD.z;omega⟩,⟨aS (Kd.bq (gS 1 (.slice hU o_.length gK) (tS sU ao7)) (fun _ hk=>trivial))⟩,⟨by (with_reducible repeat (first|refine aoU ?_ _|refine aJ ?_|refine aoQ ?_ _));refine bW ?_ nX.z _;exact bk⟩,⟨by (with_reducible repeat (first|refine aoU ?_ _|refine aJ ?_|refine aoQ ?_ _));refine bW ?_ oL.z _;exact bk⟩,⟨by (with_reducible repeat (first|refine aoU ?_ _|refine aJ ?_|refine aoQ ?_ _));refine bE (cs:=#[.int .i64 (wrap64 (ah * bM)),u104001]) ?_ 1 _ rfl;exact bk⟩,⟨bl⟩⟩
/-! ### F84: function 84 -/
def wS.f (k:Nat) (ah:Int) (af:List (List Int)) (bM:Int) (bL:List (List Int)):Option (Int × (List (List Int)) × Int):=(lB.f k ah af bM bL).bind fun t103=>(if t103=true then ((ic.f k ah af bM bL).bind fun iM=>(if iM.1 > 8 then (some (0,([]:List (List Int)),3)) else ((jU.f iM.1 iM.2).bind fun t109=>(if t109 > 10 then (some (0,([]:List (List Int)),3)) else (some (iM.1,iM.2,0)))))) else (some (0,([]:List (List Int)),1)))
theorem wS.calls (k : Nat) (ah : Int) (aT : Option Addr) (aoW : Nat) (af : List (List Int)) (bM : Int) (fV : Option Addr) (fT : Nat) (bL : List (List Int)) (r1 : Int) (r2 : List (List Int)) (r3 : Int) (w : World) (cR : Kd.C (Kd.slice 2 (Kd.int .i64)) w aT af.length af) (cX : af.length ≤ aoW) (apV : Kd.C (Kd.slice 2 (Kd.int .i64)) w fV bL.length bL) (rB : bL.length ≤ fT) (h : wS.f k ah af bM bL = some (r1, r2, r3)) :
  Calls Try.prog 84 #[.agg #[.int .i64 ah,.slice aT af.length aoW,.int .i64 bM,.slice fV bL.length fT]] w fun e w'=>∃ eM:Value,e=.returned (.tuple #[.agg #[.int .i64 r1,eM],.int .i64 r3])∧Kd.S (Kd.slice 2 (Kd.int .i64)) 28 w' w.heap.size (fun _=>True) eM r2∧Below w.heap.size w w':=by
 have wo:=Try.underlying33
 have iX:=Try.underlying31
 have ao6:=k0 cR
 have cV:=k0 cX
 clear cR cX
 have pq:=k0 apV
 have apJ:=k0 rB
 clear apV rB
 have HB:=k0 (Below.refl w.heap.size w)
 have H:((lB.f k ah af bM bL).bind fun t103=>(if t103=true then ((ic.f k ah af bM bL).bind fun iM=>(if iM.1 > 8 then (some (0,([]:List (List Int)),3)) else ((jU.f iM.1 iM.2).bind fun t109=>(if t109 > 10 then (some (0,([]:List (List Int)),3)) else (some (iM.1,iM.2,0)))))) else (some (0,([]:List (List Int)),1))))=some (r1,r2,r3):=h
 clear h
 replace H:=Option.bind_eq_some_iff.mp H
 obtain ⟨t103,fI,H⟩:=H
 replace H:(if t103=true then ((ic.f k ah af bM bL).bind fun iM=>(if iM.1 > 8 then (some (0,([]:List (List Int)),3)) else ((jU.f iM.1 iM.2).bind fun t109=>(if t109 > 10 then (some (0,([]:List (List Int)),3)) else (some (iM.1,iM.2,0)))))) else (some (0,([]:List (List Int)),1)))=some (r1,r2,r3):=H
 have A2:=k0 fI
 clear fI
 by_cases c3:t103=true
 case neg =>
  replace c3:=Bool.eq_false_iff.mpr c3
  subst c3
  have H1:(some (0,([]:List (List Int)),1))=some (r1,r2,r3):=by rw [if_neg (show ¬ (false=true) by decide)] at H;exact H
  clear H
  have H:=H1
  clear H1
  simp only [Option.some.injEq,Prod.mk.injEq] at H
  obtain ⟨rfl,rfl,rfl⟩:=H
  go_enter Try.func84,Try.ntmps84
  go_wp2_with (first|((with_reducible refine bp (N:=1) rfl ?_);refine bR 1 #[.int .i64 ah,.slice aT af.length aoW,.int .i64 bM,.slice fV bL.length fT] 33 ?_;intro aoV hg w50 aE hb;have aa:=k0 (aE);have bB:=gW hg (aoS bl);have aX:=bB;replace HB:=k0 (aH bl hb);clear hb aE hg)|((with_reducible refine bp (N:=2) rfl ?_);refine bR 2 #[.int .i64 0,.slice none 0 0] 31 ?_;intro ct hg w51 aE hb;have ak:=k0 (aE);have fA:=gW hg (aoS bl);have fy:=fA;replace HB:=k0 (aH bl hb);have cP:=nL hg aa;have dJ:=nG cP;replace aa:=kB aa hb;clear hb aE hg;have amL:=cP.z;have anu:=dJ.z;have aaY:=aQ aa;have aaZ:=aoT aa;have ai0:=ao_ aa;have ai1:=ec aa;have abK:=bF aa 0;have abL:=bF aa 1;have ak':=bF aa 2;have ak_:=bF aa 3)|((with_reducible refine bg (f:=161) rfl ?_);refine gC (some 6) Try.func161 #[.agg #[.int .i64 ah,.slice aT af.length aoW,.int .i64 bM,.slice fV bL.length fT]] ?_;(with_reducible refine (lB.calls k ah _ _ af bM _ _ bL false _ ?aoN ?aoP ?bA ?bH A2.z).mono ?_);(case aoN=>exact aC (Kd.ao4 ao6.z HB.z));(case aoP=>exact cV.z);(case bA=>exact aC (Kd.ao4 pq.z HB.z));(case bH=>exact apJ.z);rintro e w54 ⟨rfl,hb⟩;refine ⟨_,rfl,?_⟩;have aq:=kB aa hb;have au:=kB ak hb;have ax:=k0 (aH bl hb);clear aa;clear ak;clear HB;have aa:=aq;have ak:=au;have HB:=ax;clear aq au ax;have Rg:=aQ ak;have Rh:=aoT ak;have RB:=bF ak 0;have RC:=bF ak 1))
  refine bodyPost_ret (apP rfl _ _ ct 31 #[.int .i64 0,.slice none 0 0] (0,0) _ rfl (by (with_reducible repeat (first|refine aoU ?_ _|refine aJ ?_|refine aoQ ?_ _));refine bE (cs:=#[.int .i64 0,.slice none 0 0]) ?_ 1 _ rfl;(with_reducible repeat (first|refine aoU ?_ _|refine aJ ?_|refine aoQ ?_ _));refine bE (cs:=#[.int .i64 0,.slice none 0 0]) ?_ 0 _ rfl;exact bk) Try.underlying31 rfl (by kernel_rfl)) rfl ?_
  exact ⟨_,eR,by first|exact Kd.lf _ _ _ _ _|exact Kd.lG _ _ _ _ _|exact Kd.apy _ _ _ _ _|exact Kd.lH _ _ _ _ _|exact Kd.kO _ _ _ _ _,bl⟩
 subst c3
 have H1:((ic.f k ah af bM bL).bind fun iM=>(if iM.1 > 8 then (some (0,([]:List (List Int)),3)) else ((jU.f iM.1 iM.2).bind fun t109=>(if t109 > 10 then (some (0,([]:List (List Int)),3)) else (some (iM.1,iM.2,0))))))=some (r1,r2,r3):=by rw [if_pos rfl] at H;exact H
 clear H
 have H:=H1
 clear H1
 replace H:=Option.bind_eq_some_iff.mp H
 obtain ⟨⟨t104,t105⟩,fu,H⟩:=H
 replace H:(if t104 > 8 then (some (0,([]:List (List Int)),3)) else ((jU.f t104 t105).bind fun t109=>(if t109 > 10 then (some (0,([]:List (List Int)),3)) else (some (t104,t105,0)))))=some (r1,r2,r3):=H
 have A4:=k0 fu
 clear fu
 by_cases c5:t104 > 8
 case neg =>
  rw [if_neg c5] at H
  have jt:decide (8 < t104)=false:=decide_eq_false c5
  clear c5
  replace H:=Option.bind_eq_some_iff.mp H
  obtain ⟨t109,CZ,H⟩:=H
  replace H:(if t109 > 10 then (some (0,([]:List (List Int)),3)) else (some (t104,t105,0)))=some (r1,r2,r3):=H
  have Bb:=k0 CZ
  clear CZ
  by_cases c20:t109 > 10
  case neg =>
   rw [if_neg c20] at H
   have BA:decide (10 < t109)=false:=decide_eq_false c20
   clear c20
   simp only [Option.some.injEq,Prod.mk.injEq] at H
   obtain ⟨rfl,rfl,rfl⟩:=H
   go_enter Try.func84,Try.ntmps84
   go_wp2_with (first|((with_reducible refine bp (N:=1) rfl ?_);refine bR 1 #[.int .i64 ah,.slice aT af.length aoW,.int .i64 bM,.slice fV bL.length fT] 33 ?_;intro aoV hg CR aE hb;have aa:=k0 (aE);have bB:=gW hg (aoS bl);have aX:=bB;replace HB:=k0 (aH bl hb);clear hb aE hg)|((with_reducible refine bp (N:=2) rfl ?_);refine bR 2 #[.int .i64 0,.slice none 0 0] 31 ?_;intro ct hg Uf aE hb;have ak:=k0 (aE);have fA:=gW hg (aoS bl);have fy:=fA;replace HB:=k0 (aH bl hb);have cP:=nL hg aa;have dJ:=nG cP;replace aa:=kB aa hb;clear hb aE hg;have ab7:=cP.z;have acy:=dJ.z;have Re:=aQ aa;have Rf:=aoT aa;have aiG:=ao_ aa;have aiH:=ec aa;have Rz:=bF aa 0;have RA:=bF aa 1;have akQ:=bF aa 2;have akR:=bF aa 3)|((with_reducible refine bg (f:=161) rfl ?_);refine gC (some 6) Try.func161 #[.agg #[.int .i64 ah,.slice aT af.length aoW,.int .i64 bM,.slice fV bL.length fT]] ?_;(with_reducible refine (lB.calls k ah _ _ af bM _ _ bL true _ ?aoN ?aoP ?bA ?bH A2.z).mono ?_);(case aoN=>exact aC (Kd.ao4 ao6.z HB.z));(case aoP=>exact cV.z);(case bA=>exact aC (Kd.ao4 pq.z HB.z));(case bH=>exact apJ.z);rintro e Nr ⟨rfl,hb⟩;refine ⟨_,rfl,?_⟩;have aq:=kB aa hb;have au:=kB ak hb;have ax:=k0 (aH bl hb);clear aa;clear ak;clear HB;have aa:=aq;have ak:=au;have HB:=ax;clear aq au ax;have aiI:=aQ aa;have aiJ:=aoT aa;have aiK:=ao_ aa;have aiL:=ec aa;have akS:=bF aa 0;have akT:=bF aa 1;have akU:=bF aa 2;have akV:=bF aa 3)|((with_reducible refine bg (f:=162) rfl ?_);refine gC (some 10) Try.func162 #[.agg #[.int .i64 ah,.slice aT af.length aoW,.int .i64 bM,.slice fV bL.length fT]] ?_;(with_reducible refine (ic.calls k ah _ _ af bM _ _ bL t104 t105 _ ?aoN ?aoP ?bA ?bH A4.z).mono ?_);(case aoN=>exact aC (Kd.ao4 ao6.z HB.z));(case aoP=>exact cV.z);(case bA=>exact aC (Kd.ao4 pq.z HB.z));(case bH=>exact apJ.z);rintro e w41 ⟨vn,rfl,aD,hb⟩;refine ⟨_,rfl,?_⟩;have aq:=k0 (Kd.ig aD (aoS bl));have au:=kB aa hb;have ax:=kB ak hb;have aA:=k0 (aH bl hb);clear aa;clear ak;clear HB;have eP:=aq;have aa:=au;have ak:=ax;have HB:=aA;clear aq au ax aA;)|((with_reducible refine bp (N:=4) rfl ?_);refine bR 4 #[.int .i64 0,.slice none 0 0] 31 ?_;intro r_ hg w42 aE hb;have aq:=k0 (Kd.gB (aS eP.z) hb);have au:=kB aa hb;have ax:=kB ak hb;have aA:=k0 (aH bl hb);have aG:=k0 (aE);have aM:=k0 ((by rw [hg];exact (aoS bl):w.heap.size≤r_));have bu:=k0 ((by rw [hg];exact (aoS bl):w.heap.size≤r_));have cE:=nL hg aa;have ao8:=nG cE;have cG:=nL hg ak;have dy:=nG cG;clear eP;clear aa;clear ak;clear HB;have eP:=aq;have aa:=au;have ak:=ax;have HB:=aA;have kf:=aG;have FO:=aM;have I4:=bu;have q9:=cE;have zC:=ao8;have ue:=cG;have Ds:=dy;clear aq au ax aA aG aM bu cE ao8 cG dy;clear hb aE hg;have ab':=zC.z;have acB:=q9.z;have ab_:=Ds.z;have acC:=ue.z;have aaS:=aQ kf;have aaT:=aoT kf;have abE:=bF kf 0;have abF:=bF kf 1;obtain ⟨ej,ee,aqD⟩:=Kd.apc eP.z;subst aqD)|(go_at_call 163;(with_reducible refine (jU.calls t104 _ _ t105 t109 _ ?aoN ?aoP Bb.z).mono ?_);(case aoN=>refine (Kd.cQ (e:=28) (base:=w.heap.size) (ok:=fun k_=>True) (n:=t105.length) (c:=ee) ?_).2.2;exact (by (with_reducible repeat (first|apply Kd.cM|apply Kd.cI|apply Kd.cr));exact (Kd.bq (gS 1 (.slice ej t105.length ee) (gS 0 (.int .i64 t104) (tS eP kf))) (fun _ h_=>h_.1))));(case aoP=>exact (Kd.cQ eP.z).2.1);rintro e w47 ⟨rfl,hb⟩;replace eP:=k0 (Kd.gB (by (with_reducible repeat (first|apply Kd.cM|apply Kd.cI|apply Kd.cr));exact (Kd.bq (gS 1 (.slice ej t105.length ee) (gS 0 (.int .i64 t104) (tS eP kf))) (fun _ h_=>h_.1))) hb);replace aa:=k0 (cZ (g:=aoV) (o:=.cells #[.int .i64 ah,.slice aT af.length aoW,.int .i64 bM,.slice fV bL.length fT] 33 (0,0)) (by (with_reducible repeat (first|refine aoU ?_ _|refine aJ ?_|refine aoQ ?_ _));refine bW ?_ q9.z _;(with_reducible repeat (first|refine aoU ?_ _|refine aJ ?_|refine aoQ ?_ _));refine bW ?_ q9.z _;exact bk) hb);replace ak:=k0 (cZ (g:=ct) (o:=.cells #[.int .i64 0,.slice none 0 0] 31 (0,0)) (by (with_reducible repeat (first|refine aoU ?_ _|refine aJ ?_|refine aoQ ?_ _));refine bW ?_ ue.z _;(with_reducible repeat (first|refine aoU ?_ _|refine aJ ?_|refine aoQ ?_ _));refine bW ?_ ue.z _;exact bk) hb);replace kf:=k0 (cZ (g:=r_) (o:=sO t104 ej t105 ee 31) (by (with_reducible repeat (first|refine aoU ?_ _|refine aJ ?_|refine aoQ ?_ _));refine bE (cs:=#[.int .i64 t104,.slice none 0 0]) ?_ 1 _ rfl;(with_reducible repeat (first|refine aoU ?_ _|refine aJ ?_|refine aoQ ?_ _));refine bE (cs:=#[.int .i64 0,.slice none 0 0]) ?_ 0 _ rfl;exact bk) hb);replace HB:=k0 (aH bl hb);have aaU:=aQ kf;have aaV:=aoT kf;have abG:=bF kf 0;have abH:=bF kf 1;have aiU:=aQ ak;have aiV:=aoT ak;have ak4:=bF ak 0;have ak5:=bF ak 1))
   refine bodyPost_ret (apP rfl _ _ ct 31 #[.int .i64 t104,.slice ej t105.length ee] (0,0) _ rfl (by (with_reducible repeat (first|refine aoU ?_ _|refine aJ ?_|refine aoQ ?_ _));refine bE (cs:=#[.int .i64 t104,.slice none 0 0]) ?_ 1 _ rfl;(with_reducible repeat (first|refine aoU ?_ _|refine aJ ?_|refine aoQ ?_ _));refine bE (cs:=#[.int .i64 0,.slice none 0 0]) ?_ 0 _ rfl;exact bk) Try.underlying31 rfl (by kernel_rfl)) rfl ?_
   exact ⟨_,eR,by (with_reducible repeat (first|apply Kd.cM|apply Kd.cI|apply Kd.cr));exact Kd.bq (gS 1 (.slice ej t105.length ee) (gS 0 (.int .i64 t104) (tS eP ak))) (fun _ hk=>trivial),bl⟩
  rw [if_pos c20] at H
  have BA:=decide_eq_true c20
  clear c20
  simp only [Option.some.injEq,Prod.mk.injEq] at H
  obtain ⟨rfl,rfl,rfl⟩:=H
  go_enter Try.func84,Try.ntmps84
  go_wp2_with (first|((with_reducible refine bp (N:=1) rfl ?_);refine bR 1 #[.int .i64 ah,.slice aT af.length aoW,.int .i64 bM,.slice fV bL.length fT] 33 ?_;intro aoV hg CN aE hb;have aa:=k0 (aE);have bB:=gW hg (aoS bl);have aX:=bB;replace HB:=k0 (aH bl hb);clear hb aE hg)|((with_reducible refine bp (N:=2) rfl ?_);refine bR 2 #[.int .i64 0,.slice none 0 0] 31 ?_;intro ct hg tM aE hb;have ak:=k0 (aE);have fA:=gW hg (aoS bl);have fy:=fA;replace HB:=k0 (aH bl hb);have cP:=nL hg aa;have dJ:=nG cP;replace aa:=kB aa hb;clear hb aE hg;have R8:=cP.z;have Sk:=dJ.z;have KL:=aQ aa;have KM:=aoT aa;have aio:=ao_ aa;have aip:=ec aa;have K7:=bF aa 0;have K8:=bF aa 1;have aky:=bF aa 2;have akz:=bF aa 3)|((with_reducible refine bg (f:=161) rfl ?_);refine gC (some 6) Try.func161 #[.agg #[.int .i64 ah,.slice aT af.length aoW,.int .i64 bM,.slice fV bL.length fT]] ?_;(with_reducible refine (lB.calls k ah _ _ af bM _ _ bL true _ ?aoN ?aoP ?bA ?bH A2.z).mono ?_);(case aoN=>exact aC (Kd.ao4 ao6.z HB.z));(case aoP=>exact cV.z);(case bA=>exact aC (Kd.ao4 pq.z HB.z));(case bH=>exact apJ.z);rintro e y5 ⟨rfl,hb⟩;refine ⟨_,rfl,?_⟩;have aq:=kB aa hb;have au:=kB ak hb;have ax:=k0 (aH bl hb);clear aa;clear ak;clear HB;have aa:=aq;have ak:=au;have HB:=ax;clear aq au ax;have KN:=aQ aa;have KO:=aoT aa;have aaK:=ao_ aa;have aaL:=ec aa;have K9:=bF aa 0;have K_:=bF aa 1;have abw:=bF aa 2;have abx:=bF aa 3)|((with_reducible refine bg (f:=162) rfl ?_);refine gC (some 10) Try.func162 #[.agg #[.int .i64 ah,.slice aT af.length aoW,.int .i64 bM,.slice fV bL.length fT]] ?_;(with_reducible refine (ic.calls k ah _ _ af bM _ _ bL t104 t105 _ ?aoN ?aoP ?bA ?bH A4.z).mono ?_);(case aoN=>exact aC (Kd.ao4 ao6.z HB.z));(case aoP=>exact cV.z);(case bA=>exact aC (Kd.ao4 pq.z HB.z));(case bH=>exact apJ.z);rintro e xG ⟨vn,rfl,aD,hb⟩;refine ⟨_,rfl,?_⟩;have aq:=k0 (Kd.ig aD (aoS bl));have au:=kB aa hb;have ax:=kB ak hb;have aA:=k0 (aH bl hb);clear aa;clear ak;clear HB;have eP:=aq;have aa:=au;have ak:=ax;have HB:=aA;clear aq au ax aA;)|((with_reducible refine bp (N:=4) rfl ?_);refine bR 4 #[.int .i64 0,.slice none 0 0] 31 ?_;intro r_ hg aqG aE hb;have aq:=k0 (Kd.gB (aS eP.z) hb);have au:=kB aa hb;have ax:=kB ak hb;have aA:=k0 (aH bl hb);have aG:=k0 (aE);have aM:=k0 ((by rw [hg];exact (aoS bl):w.heap.size≤r_));have bu:=k0 ((by rw [hg];exact (aoS bl):w.heap.size≤r_));have cE:=nL hg aa;have ao8:=nG cE;have cG:=nL hg ak;have dy:=nG cG;clear eP;clear aa;clear ak;clear HB;have eP:=aq;have aa:=au;have ak:=ax;have HB:=aA;have kf:=aG;have FO:=aM;have I4:=bu;have q9:=cE;have zC:=ao8;have ue:=cG;have Ds:=dy;clear aq au ax aA aG aM bu cE ao8 cG dy;clear hb aE hg;have Lw:=zC.z;have LA:=q9.z;have amI:=Ds.z;have anr:=ue.z;have Rc:=aQ kf;have Rd:=aoT kf;have Rx:=bF kf 0;have Ry:=bF kf 1;obtain ⟨rN,rz,aqC⟩:=Kd.apc eP.z;subst aqC)|(go_at_call 163;(with_reducible refine (jU.calls t104 _ _ t105 t109 _ ?aoN ?aoP Bb.z).mono ?_);(case aoN=>refine (Kd.cQ (e:=28) (base:=w.heap.size) (ok:=fun k_=>True) (n:=t105.length) (c:=rz) ?_).2.2;exact (by (with_reducible repeat (first|apply Kd.cM|apply Kd.cI|apply Kd.cr));exact (Kd.bq (gS 1 (.slice rN t105.length rz) (gS 0 (.int .i64 t104) (tS eP kf))) (fun _ h_=>h_.1))));(case aoP=>exact (Kd.cQ eP.z).2.1);rintro e xH ⟨rfl,hb⟩;replace eP:=k0 (Kd.gB (by (with_reducible repeat (first|apply Kd.cM|apply Kd.cI|apply Kd.cr));exact (Kd.bq (gS 1 (.slice rN t105.length rz) (gS 0 (.int .i64 t104) (tS eP kf))) (fun _ h_=>h_.1))) hb);replace aa:=k0 (cZ (g:=aoV) (o:=.cells #[.int .i64 ah,.slice aT af.length aoW,.int .i64 bM,.slice fV bL.length fT] 33 (0,0)) (by (with_reducible repeat (first|refine aoU ?_ _|refine aJ ?_|refine aoQ ?_ _));refine bW ?_ q9.z _;(with_reducible repeat (first|refine aoU ?_ _|refine aJ ?_|refine aoQ ?_ _));refine bW ?_ q9.z _;exact bk) hb);replace ak:=k0 (cZ (g:=ct) (o:=.cells #[.int .i64 0,.slice none 0 0] 31 (0,0)) (by (with_reducible repeat (first|refine aoU ?_ _|refine aJ ?_|refine aoQ ?_ _));refine bW ?_ ue.z _;(with_reducible repeat (first|refine aoU ?_ _|refine aJ ?_|refine aoQ ?_ _));refine bW ?_ ue.z _;exact bk) hb);replace kf:=k0 (cZ (g:=r_) (o:=sO t104 rN t105 rz 31) (by (with_reducible repeat (first|refine aoU ?_ _|refine aJ ?_|refine aoQ ?_ _));refine bE (cs:=#[.int .i64 t104,.slice none 0 0]) ?_ 1 _ rfl;(with_reducible repeat (first|refine aoU ?_ _|refine aJ ?_|refine aoQ ?_ _));refine bE (cs:=#[.int .i64 0,.slice none 0 0]) ?_ 0 _ rfl;exact bk) hb);replace HB:=k0 (aH bl hb);have GF:=aQ ak;have GG:=aoT ak;have GQ:=bF ak 0;have GR:=bF ak 1))
  refine bodyPost_ret (apP rfl _ _ ct 31 #[.int .i64 0,.slice none 0 0] (0,0) _ rfl (by (with_reducible repeat (first|refine aoU ?_ _|refine aJ ?_|refine aoQ ?_ _));refine bE (cs:=#[.int .i64 0,.slice none 0 0]) ?_ 1 _ rfl;(with_reducible repeat (first|refine aoU ?_ _|refine aJ ?_|refine aoQ ?_ _));refine bE (cs:=#[.int .i64 0,.slice none 0 0]) ?_ 0 _ rfl;exact bk) Try.underlying31 rfl (by kernel_rfl)) rfl ?_
  exact ⟨_,eR,by first|exact Kd.lf _ _ _ _ _|exact Kd.lG _ _ _ _ _|exact Kd.apy _ _ _ _ _|exact Kd.lH _ _ _ _ _|exact Kd.kO _ _ _ _ _,bl⟩
 rw [if_pos c5] at H
 have jt:=decide_eq_true c5
 clear c5
 simp only [Option.some.injEq,Prod.mk.injEq] at H
 obtain ⟨rfl,rfl,rfl⟩:=H
 go_enter Try.func84,Try.ntmps84
 go_wp2_with (first|((with_reducible refine bp (N:=1) rfl ?_);refine bR 1 #[.int .i64 ah,.slice aT af.length aoW,.int .i64 bM,.slice fV bL.length fT] 33 ?_;intro aoV hg w6 aE hb;have aa:=k0 (aE);have bB:=gW hg (aoS bl);have aX:=bB;replace HB:=k0 (aH bl hb);clear hb aE hg)|((with_reducible refine bp (N:=2) rfl ?_);refine bR 2 #[.int .i64 0,.slice none 0 0] 31 ?_;intro ct hg w7 aE hb;have ak:=k0 (aE);have fA:=gW hg (aoS bl);have fy:=fA;replace HB:=k0 (aH bl hb);have cP:=nL hg aa;have dJ:=nG cP;replace aa:=kB aa hb;clear hb aE hg;have Cb:=cP.z;have Cd:=dJ.z;have v_:=aQ aa;have we:=aoT aa;have aa4:=ao_ aa;have ajR:=ec aa;have xp:=bF aa 0;have wh:=bF aa 1;have abR:=bF aa 2;have al3:=bF aa 3)|((with_reducible refine bg (f:=161) rfl ?_);refine gC (some 6) Try.func161 #[.agg #[.int .i64 ah,.slice aT af.length aoW,.int .i64 bM,.slice fV bL.length fT]] ?_;(with_reducible refine (lB.calls k ah _ _ af bM _ _ bL true _ ?aoN ?aoP ?bA ?bH A2.z).mono ?_);(case aoN=>exact aC (Kd.ao4 ao6.z HB.z));(case aoP=>exact cV.z);(case bA=>exact aC (Kd.ao4 pq.z HB.z));(case bH=>exact apJ.z);rintro e mH ⟨rfl,hb⟩;refine ⟨_,rfl,?_⟩;have aq:=kB aa hb;have au:=kB ak hb;have ax:=k0 (aH bl hb);clear aa;clear ak;clear HB;have aa:=aq;have ak:=au;have HB:=ax;clear aq au ax;have BQ:=aQ aa;have BR:=aoT aa;have aax:=ao_ aa;have aay:=ec aa;have aqO:=bF aa 0;have B2:=bF aa 1;have abi:=bF aa 2;have abj:=bF aa 3)|((with_reducible refine bg (f:=162) rfl ?_);refine gC (some 10) Try.func162 #[.agg #[.int .i64 ah,.slice aT af.length aoW,.int .i64 bM,.slice fV bL.length fT]] ?_;(with_reducible refine (ic.calls k ah _ _ af bM _ _ bL t104 t105 _ ?aoN ?aoP ?bA ?bH A4.z).mono ?_);(case aoN=>exact aC (Kd.ao4 ao6.z HB.z));(case aoP=>exact cV.z);(case bA=>exact aC (Kd.ao4 pq.z HB.z));(case bH=>exact apJ.z);rintro e vq ⟨vn,rfl,aD,hb⟩;refine ⟨_,rfl,?_⟩;have aq:=k0 (Kd.ig aD (aoS bl));have au:=kB aa hb;have ax:=kB ak hb;have aA:=k0 (aH bl hb);clear aa;clear ak;clear HB;have eP:=aq;have aa:=au;have ak:=ax;have HB:=aA;clear aq au ax aA;)|((with_reducible refine bp (N:=4) rfl ?_);refine bR 4 #[.int .i64 0,.slice none 0 0] 31 ?_;intro r_ hg tK aE hb;have aq:=k0 (Kd.gB (aS eP.z) hb);have au:=kB aa hb;have ax:=kB ak hb;have aA:=k0 (aH bl hb);have aG:=k0 (aE);have aM:=k0 ((by rw [hg];exact (aoS bl):w.heap.size≤r_));have bu:=k0 ((by rw [hg];exact (aoS bl):w.heap.size≤r_));have cE:=nL hg aa;have ao8:=nG cE;have cG:=nL hg ak;have dy:=nG cG;clear eP;clear aa;clear ak;clear HB;have eP:=aq;have aa:=au;have ak:=ax;have HB:=aA;have kf:=aG;have FO:=aM;have I4:=bu;have q9:=cE;have zC:=ao8;have ue:=cG;have Ds:=dy;clear aq au ax aA aG aM bu cE ao8 cG dy;clear hb aE hg;have R3:=zC.z;have Sf:=q9.z;have R4:=Ds.z;have Sg:=ue.z;have BS:=aQ kf;have BU:=aoT kf;have B3:=bF kf 0;have aqP:=bF kf 1;obtain ⟨Be,aqB,BM⟩:=Kd.apc eP.z;subst BM;have Er:=aQ ak;have Es:=aoT ak;have Ex:=bF ak 0;have Ey:=bF ak 1))
 refine bodyPost_ret (apP rfl _ _ ct 31 #[.int .i64 0,.slice none 0 0] (0,0) _ rfl (by (with_reducible repeat (first|refine aoU ?_ _|refine aJ ?_|refine aoQ ?_ _));refine bE (cs:=#[.int .i64 0,.slice none 0 0]) ?_ 1 _ rfl;(with_reducible repeat (first|refine aoU ?_ _|refine aJ ?_|refine aoQ ?_ _));refine bE (cs:=#[.int .i64 0,.slice none 0 0]) ?_ 0 _ rfl;(with_reducible repeat (first|refine aoU ?_ _|refine aJ ?_|refine aoQ ?_ _));refine bW ?_ ue.z _;(with_reducible repeat (first|refine aoU ?_ _|refine aJ ?_|refine aoQ ?_ _));refine bW ?_ ue.z _;exact bk) Try.underlying31 rfl (by kernel_rfl)) rfl ?_
 exact ⟨_,eR,by first|exact Kd.lf _ _ _ _ _|exact Kd.lG _ _ _ _ _|exact Kd.apy _ _ _ _ _|exact Kd.lH _ _ _ _ _|exact Kd.kO _ _ _ _ _,bl⟩
end Go.Proofs.Ytoebojnhchocaaa.E
/- Set with little white space, by a program. -/
