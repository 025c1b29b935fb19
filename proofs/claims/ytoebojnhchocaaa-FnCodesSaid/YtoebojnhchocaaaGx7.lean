/- The functions that one law reaches, each as a Lean function, and that Go's call comes to what it says. Condition of each: that the Lean function answers (is not none). -/
import Derived.Test.YtoebojnhchocaaaGx0
import Derived.Test.YtoebojnhchocaaaGx6
namespace Go.Proofs.Ytoebojnhchocaaa.G
open Go.RowKit Go.Proofs.cx.fq Go.Proofs.cx.jX Go.Proofs.cx.lu
attribute [local go_sem] max2_int min2_int max_two min_two max_three min_three max_four min_four   -- for this text's walks alone
set_option linter.unusedVariables false
set_option linter.unusedSimpArgs false
/-! ### F153: function 153 -/
def ee.l0 : Nat → List (List Int) → List (List Int) → Int → Int → Option ((List (List Int)))
 | 0,_,_,_,_=>none
 | k+1,x3,fP,gM,iO=>if iO < gM then (if 0≤iO then (if iO < (fP.length:Int) then (if 0 < ((ai fP iO).length:Int) then (if 0≤(rd (ai fP iO) 0) then (if (rd (ai fP iO) 0) < (x3.length:Int) then (if 1 < ((ai fP iO).length:Int) then (if 0≤(rd (ai fP iO) 1) then (if (rd (ai fP iO) 1) < ((ai x3 (rd (ai fP iO) 0)).length:Int) then ((some (x3.set ((rd (ai fP iO) 0):Int).toNat ((ai x3 (rd (ai fP iO) 0)).set ((rd (ai fP iO) 1):Int).toNat (wrap64 ((rd (ai x3 (rd (ai fP iO) 0)) (rd (ai fP iO) 1))+1))):List (List Int))).bind fun iA=>(if (rd (ai fP iO) 1) < (x3.length:Int) then (if (rd (ai fP iO) 0) < ((ai iA (rd (ai fP iO) 1)).length:Int) then (ee.l0 k (iA.set ((rd (ai fP iO) 1):Int).toNat ((ai iA (rd (ai fP iO) 1)).set ((rd (ai fP iO) 0):Int).toNat (wrap64 ((rd (ai iA (rd (ai fP iO) 1)) (rd (ai fP iO) 0))+1)))) fP gM (wrap64 (iO+1))) else (none)) else (none))) else (none)) else (none)) else (none)) else (none)) else (none)) else (none)) else (none)) else (none)) else (some x3)
def ee.f (k:Nat) (au:Int) (ah:List (List Int)):Option ((List (List Int))):=(fo.f k au).bind fun t102=>(ee.l0 k t102 ah (ah.length:Int) 0)
theorem ee.cC : ∀ k, (∀ y0 y1 y2 y3, ag (ee.l0 k y0 y1 y2 y3) (ee.l0 (k + 1) y0 y1 y2 y3))
 | 0=>fun _ _ _ _ r h=>by simp [ee.l0] at h
 | k+1=>by
  have a_:=ee.cC k
  ·intro y0 y1 y2 y3
   unfold ee.l0
   repeat' first
    | (with_reducible first|exact a_ _ _ _ _|exact fo.mono _ _|exact ag.refl _|exact ag.none _|refine ag.ite ?_ ?_|refine ag.bind ?_ (fun _=>?_))
    | exact a_ _ _ _ _|exact fo.mono _ _|exact ag.none _|refine ag.ite ?_ ?_|refine ag.bind ?_ (fun _=>?_)
theorem ee.mono:∀ a0 a1 k,ag (ee.f k a0 a1) (ee.f (k+1) a0 a1):=by
 intro a0 a1 k
 have a_:=ee.cC k
 unfold ee.f
 repeat' first
  | (with_reducible first|exact a_ _ _ _ _|exact fo.mono _ _|exact ag.refl _|exact ag.none _|refine ag.ite ?_ ?_|refine ag.bind ?_ (fun _=>?_))
  | exact a_ _ _ _ _|exact fo.mono _ _|exact ag.none _|refine ag.ite ?_ ?_|refine ag.bind ?_ (fun _=>?_)
def ee.T5:Bool × List (List Nat × List Nat):=(true,[([],[]),([],[]),([1],[1]),([2],[2]),([0,3],[0,3]),([4],[4]),([],[]),([6],[6]),([7],[7]),([5,8],[5,8]),([9],[9]),([10],[10]),([5,8,0,1,2,3,4,5,6,7,8,9,10,11],[5,8]),([12,11,0,1,2,3,4,5,6,7,8,9,10,11],[11,12])])
def ee.B5:List Nat:=[0,0,2,6,15,31,0,64,192,511,1023,2047,4095,8191]
theorem ee.apn:fh .any (opsOf Try.f153 5)=ee.T5:=by kernel_rfl
theorem ee.xz:kN ee.T5.2 ee.B5=true:=by kernel_rfl
def ee.T6:Bool × List (List Nat × List Nat):=(true,[([],[]),([],[]),([1],[1]),([2],[2]),([0,3],[0,3]),([4],[4]),([],[]),([6],[6]),([7],[7]),([5,8],[5,8]),([9],[9]),([10],[10]),([5,8,0,1,2,3,4,5,6,7,8,9,10,11],[5,8]),([12,11,0,1,2,3,4,5,6,7,8,9,10,11],[11,12])])
def ee.B6:List Nat:=[0,0,2,6,15,31,0,64,192,511,1023,2047,4095,8191]
theorem ee.ae3:fh .any (opsOf Try.f153 6)=ee.T6:=by kernel_rfl
theorem ee.Xp:kN ee.T6.2 ee.B6=true:=by kernel_rfl
set_option maxHeartbeats 8000000 in
set_option maxRecDepth 100000 in
theorem ee.calls (k : Nat) (au : Int) (bJ : Option Addr) (bI : Nat) (ah : List (List Int)) (r : List (List Int)) (w : World) (eS : Kd.C (Kd.slice 2 (Kd.int .i64)) w bJ ah.length ah) (eY : ah.length ≤ bI) (h : ee.f k au ah = some r) :
  Calls Try.prog 153 #[.agg #[.int .i64 au,.slice bJ ah.length bI]] w fun e w'=>∃ dw:Value,e=.returned (dw)∧Kd.S (Kd.slice 2 (Kd.int .i64)) 28 w' w.heap.size (fun _=>True) dw r∧Below w.heap.size w w':=by
 have jS:=Try.underlying31
 have dP:=k0 eS
 have f_:=k0 eY
 clear eS eY
 have HB:=k0 (Below.refl w.heap.size w)
 have H:((fo.f k au).bind fun t102=>(ee.l0 k t102 ah (ah.length:Int) 0))=some r:=h
 clear h
 replace H:=Option.bind_eq_some_iff.mp H
 obtain ⟨t102,eD,H⟩:=H
 replace H:(ee.l0 k t102 ah (ah.length:Int) 0)=some r:=H
 have A2:=k0 eD
 clear eD
 have H':=k0 H
 clear H
 go_enter Try.func153,Try.ntmps153
 go_wp2_with (first|((with_reducible refine bN (N:=1) rfl ?_);refine cE 1 #[.int .i64 au,.slice bJ ah.length bI] 31 ?_;intro aW hg w3 aG hb;have aa:=k0 (aG);have cu:=gW hg (anG bl);have anQ:=cu;replace HB:=k0 (anH bl hb);clear hb aG hg;have aiL:=aX aa;have aiM:=aY aa;have aka:=bF aa 0;have akb:=bF aa 1)|((with_reducible refine bS (f:=204) rfl ?_);refine gC (some 8) Try.func204 #[.int .i64 au] ?_;(with_reducible refine (fo.calls k au t102 _ A2.z).mono ?_);rintro e w5 ⟨iF,rfl,aq,hb⟩;refine ⟨_,rfl,?_⟩;have eP:=k0 (Kd.gD aq (anG bl));replace aa:=kB aa hb;replace HB:=k0 (anH bl hb);have Ff:=aX aa;have Fg:=aY aa;have Fk:=bF aa 0;have Fl:=bF aa 1))
 go_loopg [12] k (fun kq v12 w'=>∃ (anO:List (List Int)) (bO:Int),v12=.int .i64 bO∧ak (ee.l0 kq anO ah (ah.length:Int) bO=some r)∧ak (kq≤k)∧ak (Kd.S (Kd.slice 2 (Kd.int .i64)) 28 w' w.heap.size (fun _=>True) iF anO)∧ak (w'.heap[aW]?=some (sO au bJ ah bI 31))∧ak (Below w.heap.size w w'))
 case atStart=>exact ⟨(t102),(0),rs,H',⟨Nat.le_refl _⟩,⟨aS (eP.z)⟩,⟨bk⟩,⟨bl⟩⟩
 case round =>
  clear H'
  obtain ⟨anO,bO,rfl,HA,bH,bh,aa,HB⟩:=hrel
  cases gk with
  | zero=>exact absurd HA.z (by simp [ee.l0])
  | succ k1 =>
   have H:=HA.z
   clear HA
   simp only [ee.l0] at H
   by_cases c7:bO < (ah.length:Int)
   case neg =>
    rw [if_neg c7] at H
    have o7:decide (bO < (ah.length:Int))=false:=decide_eq_false c7
    clear c7
    obtain rfl:=Option.some.inj H
    go_wp2
    go_ret
    exact ⟨_,eR,by (with_reducible repeat (first|apply Kd.di|apply Kd.dm|apply Kd.cS));exact bh.z,bl⟩
   rw [if_pos c7] at H
   have o7:=decide_eq_true c7
   clear c7
   replace H:=iS H;obtain ⟨c8,H⟩:=H
   have p8:=decide_eq_true c8
   clear c8
   replace H:=iS H;obtain ⟨c9,H⟩:=H
   have nY:=decide_eq_true c9
   clear c9
   replace H:=iS H;obtain ⟨c10,H⟩:=H
   have r9:=decide_eq_true c10
   have apK:decide (0 < (ai ah bO).length)=true:=decide_eq_true (by omega)
   clear c10
   replace H:=iS H;obtain ⟨c11,H⟩:=H
   have lS:=decide_eq_true c11
   clear c11
   replace H:=iS H;obtain ⟨c12,H⟩:=H
   have p6:=decide_eq_true c12
   clear c12
   replace H:=iS H;obtain ⟨c13,H⟩:=H
   have aoJ:=decide_eq_true c13
   have Iv:decide (1 < (ai ah bO).length)=true:=decide_eq_true (by omega)
   clear c13
   replace H:=iS H;obtain ⟨c14,H⟩:=H
   have qC:=decide_eq_true c14
   clear c14
   replace H:=iS H;obtain ⟨c15,H⟩:=H
   have lD:=decide_eq_true c15
   clear c15
   obtain ⟨zm,yl⟩:∃ y_:List Int,y_=((ai anO (rd (ai ah bO) 0)).set ((rd (ai ah bO) 1):Int).toNat (wrap64 ((rd (ai anO (rd (ai ah bO) 0)) (rd (ai ah bO) 1))+1))):=⟨_,rfl⟩
   replace H:((some (anO.set ((rd (ai ah bO) 0):Int).toNat zm:List (List Int))).bind fun iA=>(if (rd (ai ah bO) 1) < (anO.length:Int) then (if (rd (ai ah bO) 0) < ((ai iA (rd (ai ah bO) 1)).length:Int) then (ee.l0 k1 (iA.set ((rd (ai ah bO) 1):Int).toNat ((ai iA (rd (ai ah bO) 1)).set ((rd (ai ah bO) 0):Int).toNat (wrap64 ((rd (ai iA (rd (ai ah bO) 1)) (rd (ai ah bO) 0))+1)))) ah (ah.length:Int) (wrap64 (bO+1))) else (none)) else (none)))=some r:=rH yl H
   have ap4:=k0 yl
   clear yl
   obtain ⟨iA,sI⟩:∃ y_:List (List Int),y_=(anO.set ((rd (ai ah bO) 0):Int).toNat zm):=⟨_,rfl⟩
   replace H:(if (rd (ai ah bO) 1) < (anO.length:Int) then (if (rd (ai ah bO) 0) < ((ai iA (rd (ai ah bO) 1)).length:Int) then (ee.l0 k1 (iA.set ((rd (ai ah bO) 1):Int).toNat ((ai iA (rd (ai ah bO) 1)).set ((rd (ai ah bO) 0):Int).toNat (wrap64 ((rd (ai iA (rd (ai ah bO) 1)) (rd (ai ah bO) 0))+1)))) ah (ah.length:Int) (wrap64 (bO+1))) else (none)) else (none))=some r:=rH sI H
   have vO:=k0 sI
   clear sI
   replace H:=iS H;obtain ⟨c17,H⟩:=H
   have uw:=decide_eq_true c17
   clear c17
   replace H:=iS H;obtain ⟨c18,H⟩:=H
   have Af:=decide_eq_true c18
   clear c18
   obtain ⟨pW,pK⟩:∃ y_:List Int,y_=((ai iA (rd (ai ah bO) 1)).set ((rd (ai ah bO) 0):Int).toNat (wrap64 ((rd (ai iA (rd (ai ah bO) 1)) (rd (ai ah bO) 0))+1))):=⟨_,rfl⟩
   replace H:(ee.l0 k1 (iA.set ((rd (ai ah bO) 1):Int).toNat pW) ah (ah.length:Int) (wrap64 (bO+1)))=some r:=rH pK H
   have tv:=k0 pK
   clear pK
   obtain ⟨gJ,sL⟩:∃ y_:List (List Int),y_=(iA.set ((rd (ai ah bO) 1):Int).toNat pW):=⟨_,rfl⟩
   replace H:(ee.l0 k1 gJ ah (ah.length:Int) (wrap64 (bO+1)))=some r:=rH sL H
   have BM:=k0 sL
   clear sL
   have H':=k0 H
   clear H
   have fW:0≤(bO:Int):=oD
   have fX:bO < (ah.length:Int):=oD
   obtain ⟨mb,Ug,Ou,e105,fL,C9,C2⟩:=fu dP.z bO fW fX
   cases e105
   replace fL:=hbc HB fL
   have apb:=k0 C2
   have U':=k0 C9
   clear C2 C9
   replace fW:=eq_true fW
   replace fX:=eq_true fX
   try go_wp2
   replace bh:=k0 (Kd.cS bh.z);replace aa:=k0 (aH aa.z);replace HB:=k0 (anS HB.z)
   have ji:0≤(0:Int):=(by omega)
   have jk:0 < ((ai ah bO).length:Int):=oD
   obtain ⟨lB,e106,gz⟩:=Kd.cm apb.z 0 ji jk
   have uO:=gz
   (try rw [show ((0:Int)).toNat=0 from rfl] at uO)
   (try rw [show 0 * 1=0 from rfl] at uO)
   (try rw [Addr.add_zero'] at uO)
   cases e106
   have DQ:(0 < (ai ah bO).length)=True:=eq_true (by omega)
   (try rw [show ((0:Int)).toNat=0 from rfl] at gz)
   (try rw [Addr.add_zero'] at gz)
   replace gz:=hbc HB gz
   replace ji:=eq_true ji
   replace jk:=eq_true jk
   obtain ⟨zA,wg,xK⟩:=Kd.eH bh.z
   (first|subst xK|(injection xK with ig aoq ij;have aor:=ig.symm;have aos:=ij.symm;clear ig aoq ij;subst aor;subst aos))
   have jM:0≤((rd (ai ah bO) 0):Int):=oD
   have jN:(rd (ai ah bO) 0) < (anO.length:Int):=oD
   obtain ⟨lR,zo,xD,e107,jL,qh,qf⟩:=fu (Kd.anY bh.z).2.2 (rd (ai ah bO) 0) jM jN
   cases e107
   obtain ⟨ahb,aam,aad,PY⟩:=Kd.o4 bh.z [] (rd (ai ah bO) 0) jM (by first|exact jN|exact oD|(have e_:=(Kd.anY bh.z).1;omega))
   obtain ⟨ank,rfl,I_⟩:=aad
   have Dp:=PY 0 _ rfl
   rw [Nat.add_zero,show ((Kd.slice 2 (Kd.int .i64))).sz=1 from rfl,Nat.mul_one] at Dp
   replace Dp:=Option.some.inj (Dp.symm.trans jL)
   rw [Dp] at I_
   have Ep:=k0 (show Kd.R (Kd.int .i64) 2 _ _ _ _ (ai anO (rd (ai ah bO) 0)) from I_)
   clear Dp I_
   have apW:=k0 jL
   clear PY aam
   have q8:=k0 qf
   have Bx:=k0 qh
   clear qf qh
   replace jM:=eq_true jM
   replace jN:=eq_true jN
   have kJ:0≤(1:Int):=(by omega)
   have kK:1 < ((ai ah bO).length:Int):=oD
   obtain ⟨uo,e108,ku⟩:=Kd.cm apb.z 1 kJ kK
   have apQ:=ku
   (try rw [show ((1:Int)).toNat=1 from rfl] at apQ)
   (try rw [show 1 * 1=1 from rfl] at apQ)
   (try simp only [Nat.reduceMul,Nat.reduceEqDiff,Go.Addr.add,↓reduceIte] at apQ)
   obtain rfl:lB=uo:=(by injection e108)
   (try simp only [show (1:Int).toNat=1 from rfl,Nat.reduceMul,Nat.reduceEqDiff,Go.Addr.add,↓reduceIte] at ku)
   have Td:(1 < (ai ah bO).length)=True:=eq_true (by omega)
   (try rw [show ((1:Int)).toNat=1 from rfl] at ku)
   replace ku:=hbc HB ku
   replace kJ:=eq_true kJ
   replace kK:=eq_true kK
   have rE:0≤((rd (ai ah bO) 1):Int):=oD
   have rF:(rd (ai ah bO) 1) < ((ai anO (rd (ai ah bO) 0)).length:Int):=oD
   obtain ⟨Ab,e109,sF⟩:=Kd.cm (by repeat (first|(with_reducible exact q8.z)|(with_reducible refine Kd.hJ ?_ _)|(with_reducible refine Kd.aoc ?_ _)|(with_reducible refine Kd.gO ?_)|exact q8.z)) (rd (ai ah bO) 1) rE rF
   cases e109
   replace rE:=eq_true rE
   replace rF:=eq_true rF
   have K6:0≤((rd (ai ah bO) 1):Int):=oD
   have Lo:((rd (ai ah bO) 1):Int) < (((ai anO (rd (ai ah bO) 0)).length:Int):Int):=oD
   obtain ⟨Az,ahG,Pe,Px,ZY,ahn,Nc⟩:=Kd.vR Ep.z (by omega)
   (first|cases Pe|(injection Pe with dH jB jA;(first|subst dH|(injection dH with dH;subst dH));subst jA;clear jB))
   (first|simp only [add_plain] at sF|skip)
   have af8:=k0 Px
   have UY:=k0 Nc
   clear Px ZY Nc
   (first|simp only [add_plain] at sF|skip)
   obtain ⟨acF,abc⟩:=Kd.um 0 Ep.z ((rd (ai ah bO) 1):Int) K6 Lo
   replace K6:=eq_true K6
   replace Lo:=eq_true Lo
   have acj:((rd (ai ah bO) 0):Int) < (anO.length:Int):=(by have h_:((rd (ai ah bO) 0):Int) < ((anO.length:Int):Int):=oD;first|exact h_|(have e_:=(Kd.anY bh.z).1;omega)|simpa only [List.length_set,List.length_set] using h_)
   obtain ⟨amU,ahh,aat,Z8,P4,RY,PS⟩:=Kd.xq bh.z [] ((rd (ai ah bO) 0):Int) oD (by first|exact acj|(have e_:=(Kd.anY bh.z).1;omega))
   obtain ⟨anq,rfl,Cw⟩:=Z8
   have FD:=P4 0 _ rfl
   rw [Nat.add_zero,show ((Kd.slice 2 (Kd.int .i64))).sz=1 from rfl,Nat.mul_one] at FD
   replace FD:=Option.some.inj (FD.symm.trans apW.z)
   subst FD
   clear P4 aat
   replace Cw:=(show Kd.R (Kd.int .i64) 2 _ _ _ _ (ai anO (rd (ai ah bO) 0)) from Cw)
   have zR:=Kd.xo Cw ((rd (ai ah bO) 1):Int) (wrap64 ((rd (ai anO (rd (ai ah bO) 0)) (rd (ai ah bO) 1))+1))
   have VE:=k0 (uz zR.2 apW.z (xI (RY _ (Cw.1 _ rfl)).2))
   rw [← ap4.z] at zR
   have agv:=k0 zR.1
   have apS:=PS zR.2 (fun k_ e_=>by injection e_ with e_;subst e_;exact Cw.1 _ rfl) (x':=zm) (Kd.lg zR.1)
   rw [← vO.z] at apS
   have Hx:=k0 apS
   clear zR apS PS RY
   refine oO (n:=14) (S:=fun w'=>w'.cell? lB=some (.int .i64 (rd (ai ah bO) 0))∧w'.cell? (lR.add ((rd (ai ah bO) 0)).toNat)=some (.slice (some ⟨Az,0,none⟩) (ai anO (rd (ai ah bO) 0)).length xD)∧w'.cell? ⟨lB.block,lB.off+1,none⟩=some (.int .i64 (rd (ai ah bO) 1))∧w'.cell? ⟨Az,((rd (ai ah bO) 1)).toNat,none⟩=some (.int .i64 (rd (ai anO (rd (ai ah bO) 0)) (rd (ai ah bO) 1)))) (ds:=[13]) (ba 14 0) (by kernel_rfl) rfl rfl ⟨(hbc HB uO),jL,(hbc HB apQ),sF⟩ (fun hHeld=>?_);refine qt ee.apn ee.xz (fun anM eE=>?_)
   generalize wr.drew=zf at bh aa HB UY Ep Hx q8 apW VE abc gz jL ku sF acF hHeld ⊢
   refine pu 0 (some 16) (ba 14 1) anM (h:=?_)
   refine pu 1 (some 17) (ba 14 3) anM (h:=?_)
   refine pu 2 (some 18) (ba 14 7) anM (h:=?_)
   refine pu 6 (some 22) (ba 14 71) anM (h:=?_)
   refine pu 7 (some 23) (ba 14 199) anM (h:=?_)
   refine ta 3 (some 19) (ba 14 207) anM eE hHeld (hy:=Or.inl ⟨by rfl,by rintro w' ⟨s0,s1,s2,s3⟩;go_simp;with_reducible rfl⟩) (h:=?_)
   refine pu 4 (some 20) (ba 14 223) anM (h:=?_)
   refine ta 5 (some 21) (ba 14 255) anM eE hHeld (hy:=Or.inl ⟨by rfl,by rintro w' ⟨s0,s1,s2,s3⟩;go_simp;with_reducible rfl⟩) (h:=?_)
   refine ta 8 (some 24) (ba 14 511) anM eE hHeld (hy:=Or.inl ⟨by rfl,by rintro w' ⟨s0,s1,s2,s3⟩;go_simp;with_reducible rfl⟩) (h:=?_)
   refine pu 9 (some 25) (ba 14 1023) anM (h:=?_)
   refine ta 10 (some 26) (ba 14 2047) anM eE hHeld (hy:=Or.inl ⟨by rfl,by rintro w' ⟨s0,s1,s2,s3⟩;go_simp;with_reducible rfl⟩) (h:=?_)
   refine pu 11 (some 27) (ba 14 4095) anM (h:=?_)
   refine pu 12 (some 28) (ba 14 8191) anM (h:=?_)
   refine rC (i:=13) (N:=none) (ba 14 16383) rfl rfl (j7 anM.out (by kernel_rfl)) (by decide) (fun K hK=>?_)
   refine sZ (w1:=?_) (by rfl) rfl ?_ ?_
   rotate_left;· go_simp;rfl
   refine hK.out _ _ ?_
   clear hK K
   refine o_ (qF anM.out (by kernel_rfl)) ?_
   try go_wp2
   have av:ak (Kd.S (Kd.slice 2 (Kd.int .i64)) 28 (zf.setCell ⟨Az,((rd (ai ah bO) 1):Int).toNat,none⟩ (.int .i64 (wrap64 ((rd (ai anO (rd (ai ah bO) 0)) (rd (ai ah bO) 1))+1)))) w.heap.size (fun _=>True) (.slice (some lR) anO.length wg) iA):=⟨aS (Hx.out)⟩
   have ax:ak ((zf.setCell ⟨Az,((rd (ai ah bO) 1):Int).toNat,none⟩ (.int .i64 (wrap64 ((rd (ai anO (rd (ai ah bO) 0)) (rd (ai ah bO) 1))+1)))).heap[aW]?=some (sO au (some mb) ah bI 31)):=⟨by (with_reducible repeat (first|refine anF ?_ _|refine aH ?_|refine aI ?_ _));refine anU ?_ (by have h_:=Kd.iM Ep.z aa.z (by decide);intro e_;exact h_ (by rw [e_];rfl)) _;exact bk⟩
   have ay:ak (Below w.heap.size w (zf.setCell ⟨Az,((rd (ai ah bO) 1):Int).toNat,none⟩ (.int .i64 (wrap64 ((rd (ai anO (rd (ai ah bO) 0)) (rd (ai ah bO) 1))+1))))):=⟨aL HB.z⟩
   generalize (zf.setCell ⟨Az,((rd (ai ah bO) 1):Int).toNat,none⟩ (.int .i64 (wrap64 ((rd (ai anO (rd (ai ah bO) 0)) (rd (ai ah bO) 1))+1))))=apF at av ax ay ⊢
   have bh:=av
   have aa:=ax
   have HB:=ay
   clear av ax ay
   replace bh:=k0 (Kd.cS bh.z);replace aa:=k0 (aH aa.z);replace HB:=k0 (anS HB.z)
   have jU:0≤(1:Int):=(by omega)
   have jV:1 < ((ai ah bO).length:Int):=oD
   obtain ⟨rZ,e113,kG⟩:=Kd.cm apb.z 1 jU jV
   have FL:=kG
   (try rw [show ((1:Int)).toNat=1 from rfl] at FL)
   (try rw [show 1 * 1=1 from rfl] at FL)
   (try simp only [Nat.reduceMul,Nat.reduceEqDiff,Go.Addr.add,↓reduceIte] at FL)
   obtain rfl:lB=rZ:=(by injection e113)
   (try simp only [show (1:Int).toNat=1 from rfl,Nat.reduceMul,Nat.reduceEqDiff,Go.Addr.add,↓reduceIte] at kG)
   have ael:(1 < (ai ah bO).length)=True:=eq_true (by omega)
   (try rw [show ((1:Int)).toNat=1 from rfl] at kG)
   replace kG:=hbc HB kG
   replace jU:=eq_true jU
   replace jV:=eq_true jV
   have lV:0≤((rd (ai ah bO) 1):Int):=oD
   have lX:(rd (ai ah bO) 1) < (iA.length:Int):=(by have h_:((rd (ai ah bO) 1):Int) < ((anO.length:Int):Int):=oD;first|(have e_:=(Kd.anY bh.z).1;omega)|simpa only [vO.z,List.length_set] using h_)
   have am8:(((rd (ai ah bO) 1):Int) < ((anO.length:Int):Int))=True:=eq_true oD
   obtain ⟨xx,zq,vZ,e114,nE,C_,C3⟩:=fu (Kd.anY bh.z).2.2 (rd (ai ah bO) 1) lV lX
   obtain rfl:lR=xx:=(by injection e114)
   obtain ⟨Yq,Jw,Jk,CG⟩:=Kd.o4 bh.z [] (rd (ai ah bO) 1) lV (by first|exact lX|exact oD|(have e_:=(Kd.anY bh.z).1;omega))
   obtain ⟨afm,rfl,xQ⟩:=Jk
   have sB:=CG 0 _ rfl
   rw [Nat.add_zero,show ((Kd.slice 2 (Kd.int .i64))).sz=1 from rfl,Nat.mul_one] at sB
   replace sB:=Option.some.inj (sB.symm.trans nE)
   rw [sB] at xQ
   have nj:=k0 (show Kd.R (Kd.int .i64) 2 _ _ _ _ (ai iA (rd (ai ah bO) 1)) from xQ)
   clear sB xQ
   have apX:=k0 nE
   clear CG Jw
   have zV:=k0 C3
   have ap9:=k0 C_
   clear C3 C_
   replace lV:=eq_true lV
   replace lX:=eq_true lX
   have pM:0≤(0:Int):=(by omega)
   have pO:0 < ((ai ah bO).length:Int):=oD
   obtain ⟨xy,e115,pG⟩:=Kd.cm apb.z 0 pM pO
   have FM:=pG
   (try rw [show ((0:Int)).toNat=0 from rfl] at FM)
   (try rw [show 0 * 1=0 from rfl] at FM)
   (try rw [Addr.add_zero'] at FM)
   obtain rfl:lB=xy:=(by injection e115)
   have aem:(0 < (ai ah bO).length)=True:=eq_true (by omega)
   (try rw [show ((0:Int)).toNat=0 from rfl] at pG)
   (try rw [Addr.add_zero'] at pG)
   replace pG:=hbc HB pG
   replace pM:=eq_true pM
   replace pO:=eq_true pO
   have yJ:0≤((rd (ai ah bO) 0):Int):=oD
   have yS:(rd (ai ah bO) 0) < ((ai iA (rd (ai ah bO) 1)).length:Int):=oD
   obtain ⟨WU,e116,yf⟩:=Kd.cm (by repeat (first|(with_reducible exact zV.z)|(with_reducible refine Kd.hJ ?_ _)|(with_reducible refine Kd.aoc ?_ _)|(with_reducible refine Kd.gO ?_)|exact zV.z)) (rd (ai ah bO) 0) yJ yS
   cases e116
   replace yJ:=eq_true yJ
   replace yS:=eq_true yS
   have yQ:0≤((rd (ai ah bO) 0):Int):=oD
   have apk:((rd (ai ah bO) 0):Int) < (((ai iA (rd (ai ah bO) 1)).length:Int):Int):=oD
   obtain ⟨AA,we,tG,Cv,Jf,YA,Bz⟩:=Kd.vR nj.z (by omega)
   (first|cases tG|(injection tG with dH jB jA;(first|subst dH|(injection dH with dH;subst dH));subst jA;clear jB))
   (first|simp only [add_plain] at yf|skip)
   have M0:=k0 Cv
   have M5:=k0 Bz
   clear Cv Jf Bz
   (first|simp only [add_plain] at yf|skip)
   obtain ⟨Sl,Qw⟩:=Kd.um 0 nj.z ((rd (ai ah bO) 0):Int) yQ apk
   replace yQ:=eq_true yQ
   replace apk:=eq_true apk
   have acm:((rd (ai ah bO) 1):Int) < (iA.length:Int):=(by have h_:((rd (ai ah bO) 1):Int) < ((anO.length:Int):Int):=oD;first|exact h_|(have e_:=(Kd.anY bh.z).1;omega)|simpa only [vO.z,List.length_set] using h_)
   obtain ⟨amV,ahj,aav,Z_,P6,RZ,PU⟩:=Kd.xq bh.z [] ((rd (ai ah bO) 1):Int) oD (by first|exact acm|(have e_:=(Kd.anY bh.z).1;omega))
   obtain ⟨ans,rfl,Cy⟩:=Z_
   have FF:=P6 0 _ rfl
   rw [Nat.add_zero,show ((Kd.slice 2 (Kd.int .i64))).sz=1 from rfl,Nat.mul_one] at FF
   replace FF:=Option.some.inj (FF.symm.trans apX.z)
   subst FF
   clear P6 aav
   replace Cy:=(show Kd.R (Kd.int .i64) 2 _ _ _ _ (ai iA (rd (ai ah bO) 1)) from Cy)
   have apt:=Kd.xo Cy ((rd (ai ah bO) 0):Int) (wrap64 ((rd (ai iA (rd (ai ah bO) 1)) (rd (ai ah bO) 0))+1))
   have VF:=k0 (uz apt.2 apX.z (xI (RZ _ (Cy.1 _ rfl)).2))
   rw [← tv.z] at apt
   have agw:=k0 apt.1
   have apT:=PU apt.2 (fun k_ e_=>by injection e_ with e_;subst e_;exact Cy.1 _ rfl) (x':=pW) (Kd.lg apt.1)
   rw [← BM.z] at apT
   have NA:=k0 apT
   clear apt apT PU RZ
   refine oO (n:=14) (S:=fun w'=>w'.cell? ⟨lB.block,lB.off+1,none⟩=some (.int .i64 (rd (ai ah bO) 1))∧w'.cell? (lR.add ((rd (ai ah bO) 1)).toNat)=some (.slice (some ⟨AA,0,none⟩) (ai iA (rd (ai ah bO) 1)).length vZ)∧w'.cell? lB=some (.int .i64 (rd (ai ah bO) 0))∧w'.cell? ⟨AA,((rd (ai ah bO) 0)).toNat,none⟩=some (.int .i64 (rd (ai iA (rd (ai ah bO) 1)) (rd (ai ah bO) 0)))) (ds:=[13]) (ba 14 0) (by kernel_rfl) rfl rfl ⟨(hbc HB FL),nE,(hbc HB FM),yf⟩ (fun hHeld=>?_);refine qt ee.ae3 ee.Xp (fun anM eE=>?_)
   generalize apF.drew=Gr at bh aa HB M5 nj Hx NA zV apX VF Qw kG nE pG yf Sl hHeld ⊢
   refine pu 0 (some 29) (ba 14 1) anM (h:=?_)
   refine pu 1 (some 30) (ba 14 3) anM (h:=?_)
   refine pu 2 (some 31) (ba 14 7) anM (h:=?_)
   refine pu 6 (some 35) (ba 14 71) anM (h:=?_)
   refine pu 7 (some 36) (ba 14 199) anM (h:=?_)
   refine ta 3 (some 32) (ba 14 207) anM eE hHeld (hy:=Or.inl ⟨by rfl,by rintro w' ⟨s0,s1,s2,s3⟩;go_simp;with_reducible rfl⟩) (h:=?_)
   refine pu 4 (some 33) (ba 14 223) anM (h:=?_)
   refine ta 5 (some 34) (ba 14 255) anM eE hHeld (hy:=Or.inl ⟨by rfl,by rintro w' ⟨s0,s1,s2,s3⟩;go_simp;with_reducible rfl⟩) (h:=?_)
   refine ta 8 (some 37) (ba 14 511) anM eE hHeld (hy:=Or.inl ⟨by rfl,by rintro w' ⟨s0,s1,s2,s3⟩;go_simp;with_reducible rfl⟩) (h:=?_)
   refine pu 9 (some 38) (ba 14 1023) anM (h:=?_)
   refine ta 10 (some 39) (ba 14 2047) anM eE hHeld (hy:=Or.inl ⟨by rfl,by rintro w' ⟨s0,s1,s2,s3⟩;go_simp;with_reducible rfl⟩) (h:=?_)
   refine pu 11 (some 40) (ba 14 4095) anM (h:=?_)
   refine pu 12 (some 41) (ba 14 8191) anM (h:=?_)
   refine rC (i:=13) (N:=none) (ba 14 16383) rfl rfl (j7 anM.out (by kernel_rfl)) (by decide) (fun K hK=>?_)
   refine sZ (w1:=?_) (by rfl) rfl ?_ ?_
   rotate_left;· go_simp;rfl
   refine hK.out _ _ ?_
   clear hK K
   refine o_ (qF anM.out (by kernel_rfl)) ?_
   try go_wp2
   go_roundg k1
   case measure=>have:=bH.z;omega
   case rel=>exact ⟨(gJ),(wrap64 (bO+1)),rs,H',⟨by have:=bH.z;omega⟩,⟨aS (NA.out)⟩,⟨by (with_reducible repeat (first|refine anF ?_ _|refine aH ?_|refine aI ?_ _));refine anU ?_ (by have h_:=Kd.iM nj.z aa.z (by decide);intro e_;exact h_ (by rw [e_];rfl)) _;exact bk⟩,⟨aL HB.z⟩⟩
end Go.Proofs.Ytoebojnhchocaaa.G
/- Set with little white space, by a program. -/
