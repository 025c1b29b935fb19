/- The functions that one law reaches, each as a Lean function, and that Go's call comes to what it says. Condition of each: that the Lean function answers (is not none). -/
import Derived.Test.YtoebojnhchocaaaEx0
import Derived.Test.YtoebojnhchocaaaEx4
namespace Go.Proofs.Ytoebojnhchocaaa.E
open Go.RowKit Go.Proofs.bY.apf Go.Proofs.bY.ko Go.Proofs.bY.kN
attribute [local go_sem] max2_int min2_int max_two min_two max_three min_three max_four min_four   -- for this text's walks alone
set_option linter.unusedVariables false
set_option linter.unusedSimpArgs false
/-! ### F169: function 169 -/
mutual
def eW.j0 : Nat → List Int → List Int → Bool → Option (List Int × Bool)
 | 0,_,_,_=>none
 | k+1,x0,x1,k9=>if k9=true then (some ((([]:List Int)),true)) else (if (wrap64 ((wrap64 ((x0.length:Int)+(x1.length:Int))) - 1)) > 40 then (some (([]:List Int),false)) else (eW.l0 k x0 x1 (([]:List Int)) (wrap64 ((wrap64 ((x0.length:Int)+(x1.length:Int))) - 1)) 0))
def eW.l0 : Nat → List Int → List Int → List Int → Int → Int → Option (List Int × Bool)
 | 0,_,_,_,_,_=>none
 | k+1,x0,x1,x6,Fx,vv=>if vv < Fx then (eW.l1 k x0 x1 x6 vv 0 (mx 0 (wrap64 ((wrap64 (vv - (x1.length:Int)))+1))) Fx vv) else (some (x6,true))
def eW.l1 : Nat → List Int → List Int → List Int → Int → Int → Int → Int → Int → Option (List Int × Bool)
 | 0,_,_,_,_,_,_,_,_=>none
 | k+1,x0,x1,x6,x7,x8,fS,Fx,vv=>if fS≤(mn x7 (wrap64 ((x0.length:Int) - 1))) then (if 0≤fS then (if fS < (x0.length:Int) then (if 0≤(wrap64 (x7 - fS)) then (if (wrap64 (x7 - fS)) < (x1.length:Int) then ((lC.f k x8 (rd x0 fS) (rd x1 (wrap64 (x7 - fS)))).bind fun js=>(if js.2=true then (eW.l1 k x0 x1 x6 x7 js.1 (wrap64 (fS+1)) Fx vv) else (some (([]:List Int),false)))) else (none)) else (none)) else (none)) else (none)) else (if x6.length < 17592186044416 then (eW.l0 k x0 x1 (x6 ++ [x8]) Fx (wrap64 (vv+1))) else (none))
end
def eW.f (k:Nat) (l0:List Int) (l1:List Int):Option (List Int × Bool):=if (l0.length:Int)=0 then (eW.j0 k l0 l1 true) else (eW.j0 k l0 l1 ((l1.length:Int) == 0))
def eW.O5:Bool × List (List Nat × List Nat):=(true,[([],[]),([],[]),([],[]),([1,2],[1,2]),([3],[3]),([],[]),([],[]),([],[]),([6,7],[6,7]),([5,8],[5,8]),([9],[9]),([0,4,10],[0,4,10]),([11],[11]),([12],[12]),([12],[12]),([13,11,0,1,2,3,4,5,6,7,8,9,10,11,12,13],[0,13]),([14,15,0,1,2,3,4,5,6,7,8,9,10,11,12,13,14,15],[14])])
def eW.U3:List Nat:=[0,0,0,6,14,0,0,0,192,480,992,2047,4095,8191,8191,16383,65535]
theorem eW.T2:iP .any (opsOf Try.f169 13)=eW.O5:=by kernel_rfl
theorem eW.Po:nA eW.O5.2 eW.U3=true:=by kernel_rfl
set_option maxHeartbeats 8000000 in
set_option maxRecDepth 100000 in
theorem eW.calls (k : Nat) (A0 : Option Addr) (c0 : Nat) (l0 : List Int) (A1 : Option Addr) (c1 : Nat) (l1 : List Int) (r1 : List Int) (r2 : Bool) (w : World) (cY : Kd.C (Kd.int .i64) w A0 l0.length l0) (hc0 : l0.length ≤ c0) (fY : Kd.C (Kd.int .i64) w A1 l1.length l1) (gi : l1.length ≤ c1) (h : eW.f k l0 l1 = some (r1, r2)) :
  Calls Try.prog 169 #[.slice A0 l0.length c0,.slice A1 l1.length c1] w fun e w'=>∃ eE:Value,e=.returned (.tuple #[eE,.bool r2])∧Kd.R (Kd.int .i64) 2 w' w.heap.size (fun _=>True) eE r1∧Below w.heap.size w w':=by
 have ek:=k0 cY
 have jx:=k0 hc0
 clear cY hc0
 have gq:=k0 fY
 have lD:=k0 gi
 clear fY gi
 have HB:=k0 (Below.refl w.heap.size w)
 have H:(if (l0.length:Int)=0 then (eW.j0 k l0 l1 true) else (eW.j0 k l0 l1 ((l1.length:Int) == 0)))=some (r1,r2):=h
 clear h
 have zm:=k0 H
 clear H
 go_enter Try.func169,Try.ntmps169
 go_upto_region 1 with (fail)
 go_cut [18] (fun Fp wc=>∃ (kq:Nat) (Iq:Bool),Fp=.bool Iq∧aj (eW.j0 kq l0 l1 Iq=some (r1,r2))∧aj (kq≤k)∧aj (Below w.heap.size w wc))
 case first =>
  have H:=zm.z
  clear zm
  by_cases c4:(l0.length:Int)=0
  case neg =>
   rw [if_neg c4] at H
   have fX:((l0.length:Int) == 0)=false:=beq_eq_false_iff_ne.mpr c4
   have qa:((l0.length:Int) != 0)=true:=bne_iff_ne.mpr c4
   have ahe:¬ (l0=[]):=fun h_=>c4 (by rw [h_];rfl)
   (first|rw [fX]|(simp only [cm,cO];rw [fX])|skip)
   have H':=k0 H
   clear H
   go_wp2
   go_meet
   case rel=>exact ⟨_,(((l1.length:Int) == 0)),rs,(by first|exact H'|(rw [uH];exact H')|(rw [wj];exact H')|(rw [td];exact H')),⟨by first|omega|exact Nat.le_refl _⟩,⟨bl⟩⟩
  rw [if_pos c4] at H
  have fX:((l0.length:Int) == 0)=true:=beq_iff_eq.mpr c4
  have qa:((l0.length:Int) != 0)=false:=bne_eq_false_iff_eq.mpr c4
  clear c4
  (first|rw [fX]|(simp only [cm,cO];rw [fX])|skip)
  have H':=k0 H
  clear H
  go_wp2
  go_meet
  case rel=>exact ⟨_,(true),rs,(by first|exact H'|(rw [uH];exact H')|(rw [wj];exact H')|(rw [td];exact H')),⟨by first|omega|exact Nat.le_refl _⟩,⟨bl⟩⟩
 case rest =>
  clear zm
  obtain ⟨kq,Iq,rfl,HA,tY,HB⟩:=hcut
  cases kq with
  | zero=>exact absurd HA.z (by simp [eW.j0])
  | succ xy =>
   have H:=HA.z
   clear HA
   simp only [eW.j0] at H
   by_cases c5:Iq=true
   case neg =>
    replace c5:=Bool.eq_false_iff.mpr c5
    subst c5
    have H1:(if (wrap64 ((wrap64 ((l0.length:Int)+(l1.length:Int))) - 1)) > 40 then (some (([]:List Int),false)) else (eW.l0 xy l0 l1 (([]:List Int)) (wrap64 ((wrap64 ((l0.length:Int)+(l1.length:Int))) - 1)) 0))=some (r1,r2):=by rw [if_neg (show ¬ (false=true) by decide)] at H;exact H
    clear H
    have H:=H1
    clear H1
    by_cases c8:(wrap64 ((wrap64 ((l0.length:Int)+(l1.length:Int))) - 1)) > 40
    case neg =>
     rw [if_neg c8] at H
     have kH:decide (40 < (wrap64 ((wrap64 ((l0.length:Int)+(l1.length:Int))) - 1)))=false:=decide_eq_false c8
     clear c8
     obtain ⟨sK,qV⟩:∃ y_:List Int,y_=(([]:List Int)):=⟨_,rfl⟩
     replace H:(eW.l0 xy l0 l1 sK (wrap64 ((wrap64 ((l0.length:Int)+(l1.length:Int))) - 1)) 0)=some (r1,r2):=rH qV H
     have aqj:=k0 qV
     clear qV
     have H':=k0 H
     clear H
     go_wp2_with (first|((with_reducible refine bp (N:=27) rfl ?_);(try (refine jC (by rfl) ?_;dsimp only));refine Kd.jr (Kd.int .i64) _ 2 ?hg (N:=27) ?hd (xs:=([]:List Int)) (inner:=[]) (ok:=fun _=>True) (b_:=fun _=>True) ?hr ?hp (fun _ hk=>hk) trivial (Below.refl _ _) (Nat.le_refl _) (by simp) ?_;(case hd=>rfl);(case hg=>rfl);(case hr=>first|(go_simp;done)|(go_simp;rfl));(case hp=>exact (bh.none _ _));intro v105 w9 sq hb cJ cK;clear cJ cK;(first|rw [← aqj.z] at sq|(simp only [Int.reduceToNat] at sq;rw [← aqj.z] at sq));have gp:=k0 (Kd.cU sq (aoS bl));replace HB:=k0 (aH bl hb);clear hb sq))
     go_loopg [6,34] xy (fun kq v6 v34 w'=>∃ (d_:List Int) (aps:Int),v34=.int .i64 aps∧aj (eW.l0 kq l0 l1 d_ (wrap64 ((wrap64 ((l0.length:Int)+(l1.length:Int))) - 1)) aps=some (r1,r2))∧aj (kq≤xy)∧aj (Kd.R (Kd.int .i64) 2 w' w.heap.size (fun _=>True) v6 d_)∧aj (Below w.heap.size w w'))
     case atStart=>exact ⟨(sK),(0),rs,H',⟨Nat.le_refl _⟩,⟨aR (gp.z)⟩,⟨bl⟩⟩
     case round =>
      clear H'
      obtain ⟨d_,aps,rfl,HA,cD,bz,HB⟩:=hrel
      cases gk with
      | zero=>exact absurd HA.z (by simp [eW.l0])
      | succ k2 =>
       have H:=HA.z
       clear HA
       simp only [eW.l0] at H
       by_cases c11:aps < (wrap64 ((wrap64 ((l0.length:Int)+(l1.length:Int))) - 1))
       case neg =>
        rw [if_neg c11] at H
        have ku:decide (aps < (wrap64 ((wrap64 ((l0.length:Int)+(l1.length:Int))) - 1)))=false:=decide_eq_false c11
        clear c11
        simp only [Option.some.injEq,Prod.mk.injEq] at H
        obtain ⟨rfl,rfl⟩:=H
        go_wp2
        go_ret2
        exact ⟨_,eR,by (with_reducible repeat (first|apply Kd.dK|apply Kd.dD|apply Kd.cB));exact bz.z,bl⟩
       rw [if_pos c11] at H
       have ku:=decide_eq_true c11
       clear c11
       obtain ⟨Ma,uH⟩:∃ j_:Int,(mx 0 (wrap64 ((wrap64 (aps - (l1.length:Int)))+1)))=j_:=⟨_,rfl⟩
       replace H:(eW.l1 k2 l0 l1 d_ aps 0 Ma (wrap64 ((wrap64 ((l0.length:Int)+(l1.length:Int))) - 1)) aps)=some (r1,r2):=by first|(rw [uH] at H;exact H)|(simp only [uH] at H ⊢;exact H)
       have al4:(if 0 < (wrap64 ((wrap64 (aps - (l1.length:Int)))+1)) then (wrap64 ((wrap64 (aps - (l1.length:Int)))+1)) else 0)=Ma:=uH
       have H':=k0 H
       clear H
       go_wp2
       go_loopg [8,10] k2 (fun kq v8 v10 w'=>∃ (iH:Int) (dX:Int),v8=.int .i64 iH∧v10=.int .i64 dX∧aj (eW.l1 kq l0 l1 d_ aps iH dX (wrap64 ((wrap64 ((l0.length:Int)+(l1.length:Int))) - 1)) aps=some (r1,r2))∧aj (kq≤k2)∧aj (Kd.R (Kd.int .i64) 2 w' w.heap.size (fun _=>True) u6 d_)∧aj (Below w.heap.size w w'))
       case atStart=>exact ⟨(0),(Ma),rs,(by first|rfl|(simp;done)|(simp only [← uH]<;>(first|rfl|simp))|(simp [*];done)),H',⟨Nat.le_refl _⟩,⟨aR (bz.z)⟩,⟨bl⟩⟩
       case round =>
        clear H'
        obtain ⟨iH,dX,rfl,rfl,HA,iK,bz,HB⟩:=hrel
        cases gk with
        | zero=>exact absurd HA.z (by simp [eW.l1])
        | succ k3 =>
         have H:=HA.z
         clear HA
         simp only [eW.l1] at H
         obtain ⟨aqW,wj⟩:∃ j_:Int,(mn aps (wrap64 ((l0.length:Int) - 1)))=j_:=⟨_,rfl⟩
         replace H:(if dX≤(aqW) then (if 0≤dX then (if dX < (l0.length:Int) then (if 0≤(wrap64 (aps - dX)) then (if (wrap64 (aps - dX)) < (l1.length:Int) then ((lC.f k3 iH (rd l0 dX) (rd l1 (wrap64 (aps - dX)))).bind fun js=>(if js.2=true then (eW.l1 k3 l0 l1 d_ aps js.1 (wrap64 (dX+1)) (wrap64 ((wrap64 ((l0.length:Int)+(l1.length:Int))) - 1)) aps) else (some (([]:List Int),false)))) else (none)) else (none)) else (none)) else (none)) else (if d_.length < 17592186044416 then (eW.l0 k3 l0 l1 (d_ ++ [iH]) (wrap64 ((wrap64 ((l0.length:Int)+(l1.length:Int))) - 1)) (wrap64 (aps+1))) else (none)))=some (r1,r2):=by first|(rw [wj] at H;exact H)|(simp only [wj] at H ⊢;exact H)
         have al5:(if (wrap64 ((l0.length:Int) - 1)) < aps then (wrap64 ((l0.length:Int) - 1)) else aps)=aqW:=wj
         by_cases c14:dX≤(aqW)
         case neg =>
          rw [if_neg c14] at H
          have pJ:decide (dX≤(aqW))=false:=decide_eq_false c14
          clear c14
          replace H:=iS H;obtain ⟨c26,H⟩:=H
          have Jv:=k0 c26
          clear c26
          obtain ⟨qu,oo⟩:∃ y_:List Int,y_=(d_ ++ [iH]):=⟨_,rfl⟩
          replace H:(eW.l0 k3 l0 l1 qu (wrap64 ((wrap64 ((l0.length:Int)+(l1.length:Int))) - 1)) (wrap64 (aps+1)))=some (r1,r2):=rH oo H
          have vO:=k0 oo
          clear oo
          have H':=k0 H
          clear H
          go_wp2_with (first|((with_reducible refine kQ (b:=.append) (xs:=#[.tmp 69,.tmp 71]) rfl ?_);(try (refine jC (by rfl) ?_;dsimp only));at_builtin;refine Kd.p9 (Kd.int .i64) (w0:=w) w.heap.size rfl (.tmp 69) (.tmp 71) 28 2 (.int .i64 0) 8 rfl Try.underlying28 mR rfl (by decide) (by omega) u6 d_ iH [.int .i64 iH] (fun _=>True) (fun _=>False) rfl rfl ?aP (fun _ hk=>hk.elim) ?aF ?aO ?aB ?aS ?aL ?_;(case aP=>exact rfl);(case aB=>exact bl);(case aF=>exact (fun _ _=>trivial));(case aO=>exact (aR bz.z));(case aS=>exact (aoS bl));(case aL=>have:=Jv.out;omega);intro Fl xG ho hb hg ao1;rw [← vO.z] at ho;have aq:=k0 (hb);have au:=k0 (ho);clear HB;clear bz;have HB:=aq;have oI:=au;clear aq au;clear ho hb hg ao1))
          first|go_roundg k3|(simp only [← uH];go_roundg k3)|(simp only [← wj];go_roundg k3)|(simp only [← td];go_roundg k3)
          case measure=>have:=tY.out;have:=cD.z;have:=iK.z;omega
          case rel=>exact ⟨(qu),(wrap64 (aps+1)),rs,(by first|exact H'|(rw [uH];exact H')|(rw [wj];exact H')|(rw [td];exact H')),⟨by have:=tY.out;have:=cD.z;have:=iK.z;omega⟩,⟨aR (oI.z)⟩,⟨bl⟩⟩
         rw [if_pos c14] at H
         have pJ:=decide_eq_true c14
         clear c14
         replace H:=iS H;obtain ⟨c15,H⟩:=H
         have oN:=decide_eq_true c15
         clear c15
         replace H:=iS H;obtain ⟨c16,H⟩:=H
         have qK:=decide_eq_true c16
         clear c16
         obtain ⟨oR,td⟩:∃ j_:Int,(wrap64 (aps - dX))=j_:=⟨_,rfl⟩
         replace H:(if 0≤(oR) then (if (oR) < (l1.length:Int) then ((lC.f k3 iH (rd l0 dX) (rd l1 (oR))).bind fun js=>(if js.2=true then (eW.l1 k3 l0 l1 d_ aps js.1 (wrap64 (dX+1)) (wrap64 ((wrap64 ((l0.length:Int)+(l1.length:Int))) - 1)) aps) else (some (([]:List Int),false)))) else (none)) else (none))=some (r1,r2):=by first|(rw [td] at H;exact H)|(simp only [td] at H ⊢;exact H)
         have al9:(IntKind.i64.wrap (aps - dX))=oR:=(cm _).trans td
         replace H:=iS H;obtain ⟨c18,H⟩:=H
         have apY:=decide_eq_true c18
         clear c18
         replace H:=iS H;obtain ⟨c19,H⟩:=H
         have aqp:=decide_eq_true c19
         clear c19
         replace H:=Option.bind_eq_some_iff.mp H
         obtain ⟨⟨t109,t110⟩,C0,H⟩:=H
         replace H:(if t110=true then (eW.l1 k3 l0 l1 d_ aps t109 (wrap64 (dX+1)) (wrap64 ((wrap64 ((l0.length:Int)+(l1.length:Int))) - 1)) aps) else (some (([]:List Int),false)))=some (r1,r2):=H
         have fI:=k0 C0
         clear C0
         by_cases c21:t110=true
         case neg =>
          replace c21:=Bool.eq_false_iff.mpr c21
          subst c21
          have H1:(some (([]:List Int),false))=some (r1,r2):=by rw [if_neg (show ¬ (false=true) by decide)] at H;exact H
          clear H
          have H:=H1
          clear H1
          simp only [Option.some.injEq,Prod.mk.injEq] at H
          obtain ⟨rfl,rfl⟩:=H
          try go_wp2
          replace bz:=k0 (Kd.cB bz.z);replace HB:=k0 (aZ HB.z)
          have ji:0≤(dX:Int):=oD
          have jk:dX < (l0.length:Int):=oD
          obtain ⟨ni,e107,iN⟩:=Kd.cN ek.z dX ji jk
          have pR:=iN
          cases e107
          replace iN:=hbc HB iN
          replace ji:=eq_true ji
          replace jk:=eq_true jk
          have iw:0≤((oR):Int):=oD
          have iy:(oR) < (l1.length:Int):=oD
          obtain ⟨qG,e108,ij⟩:=Kd.cN gq.z (oR) iw iy
          have sw:=ij
          cases e108
          replace ij:=hbc HB ij
          replace iw:=eq_true iw
          replace iy:=eq_true iy
          refine apA (n:=17) (S:=fun w'=>w'.cell? (ni.add (dX).toNat)=some (.int .i64 (rd l0 dX))∧w'.cell? (qG.add ((oR)).toNat)=some (.int .i64 (rd l1 (oR)))) (ds:=[]) (ba 17 0) (by kernel_rfl) rfl rfl ⟨(hbc HB pR),(hbc HB sw)⟩ (fun hHeld=>?_);refine nB eW.T2 eW.Po (fun az dA=>?_)
          generalize wr.drew=Fs at bz HB iN ij hHeld ⊢
          refine pu 0 (some 53) (ba 17 1) az (h:=?_)
          refine pu 1 (some 54) (ba 17 3) az (h:=?_)
          refine pu 2 (some 55) (ba 17 7) az (h:=?_)
          refine pu 3 (some 56) (ba 17 15) az (h:=?_)
          refine pu 5 (some 58) (ba 17 47) az (h:=?_)
          refine pu 6 (some 59) (ba 17 111) az (h:=?_)
          refine pu 7 (some 60) (ba 17 239) az (h:=?_)
          refine pu 8 (some 61) (ba 17 495) az (h:=?_)
          refine pu 9 (some 62) (ba 17 1007) az (h:=?_)
          refine ta 4 (some 57) (ba 17 1023) az dA hHeld (hy:=Or.inl ⟨by rfl,by rintro w' ⟨s0,s1⟩;go_simp;with_reducible rfl⟩) (h:=?_)
          refine ta 10 (some 63) (ba 17 2047) az dA hHeld (hy:=Or.inl ⟨by rfl,by rintro w' ⟨s0,s1⟩;go_simp;with_reducible rfl⟩) (h:=?_)
          refine ja (i:=11) (N:=some 64) (ba 17 4095) rfl rfl (hO az.out (by kernel_rfl)) (by decide) (fun K hK=>?_)
          refine mP Try.func167 (by kernel_rfl) rfl #[.int .i64 iH,.int .i64 (rd l0 dX),.int .i64 (rd l1 (oR))] (by rfl) rfl rfl (by (try simp only [List.map_toArray,List.map_cons,List.map_nil]);first|done|(simp only [td];rfl)|rfl|(simp only [List.length_drop,List.length_take];rfl)) ?_
          with_reducible refine (lC.calls k3 iH (rd l0 dX) (rd l1 (oR)) t109 false _ fI.z).mono ?_
          rintro e y5 ⟨rfl,hb⟩
          refine ⟨_,rfl,?_⟩
          replace bz:=k0 (Kd.apn (aR bz.z) hb);replace HB:=k0 (aH bl hb)
          refine hK.out _ _ ⟨(hbc HB pR),(hbc HB sw)⟩ (fun hHeld=>?_)
          clear hK K
          refine jh (a':=?_) ?_ ?_
          rotate_left;· show Act.put _ (some 64) _=_;simp only [Act.put,zI,zZ,zS,cm,cO];rfl
          refine pu 12 (some 52) (ba 17 8191) az (h:=?_)
          refine pu 13 (some 65) (ba 17 16383) az (h:=?_)
          refine pu 14 (some 66) (ba 17 32767) az (h:=?_)
          refine pu 15 (some 8) (ba 17 65535) az (h:=?_)
          refine pu 16 (some 9) (ba 17 131071) az (h:=?_)
          refine lY (nj az.out (by kernel_rfl)) ?_
          try go_wp2
          go_ret2
          exact ⟨_,by first|rfl|(simp [je,jf]<;>rfl)|(simp only [← uH,← wj,← td];first|rfl|(simp [je,jf]<;>rfl))|(simp [*,je,jf]<;>rfl),by first|exact Kd.kO _ _ _ _ _|exact Kd.lG _ _ _ _ _|exact Kd.apy _ _ _ _ _|exact Kd.lH _ _ _ _ _|exact Kd.lf _ _ _ _ _,bl⟩
         subst c21
         have H1:(eW.l1 k3 l0 l1 d_ aps t109 (wrap64 (dX+1)) (wrap64 ((wrap64 ((l0.length:Int)+(l1.length:Int))) - 1)) aps)=some (r1,r2):=by rw [if_pos rfl] at H;exact H
         clear H
         have H:=H1
         clear H1
         have H':=k0 H
         clear H
         try go_wp2
         replace bz:=k0 (Kd.cB bz.z);replace HB:=k0 (aZ HB.z)
         have ji:0≤(dX:Int):=oD
         have jk:dX < (l0.length:Int):=oD
         obtain ⟨ni,e107,iN⟩:=Kd.cN ek.z dX ji jk
         have pR:=iN
         cases e107
         replace iN:=hbc HB iN
         replace ji:=eq_true ji
         replace jk:=eq_true jk
         have iw:0≤((oR):Int):=oD
         have iy:(oR) < (l1.length:Int):=oD
         obtain ⟨qG,e108,ij⟩:=Kd.cN gq.z (oR) iw iy
         have sw:=ij
         cases e108
         replace ij:=hbc HB ij
         replace iw:=eq_true iw
         replace iy:=eq_true iy
         refine apA (n:=17) (S:=fun w'=>w'.cell? (ni.add (dX).toNat)=some (.int .i64 (rd l0 dX))∧w'.cell? (qG.add ((oR)).toNat)=some (.int .i64 (rd l1 (oR)))) (ds:=[]) (ba 17 0) (by kernel_rfl) rfl rfl ⟨(hbc HB pR),(hbc HB sw)⟩ (fun hHeld=>?_);refine nB eW.T2 eW.Po (fun az dA=>?_)
         generalize wr.drew=tM at bz HB iN ij hHeld ⊢
         refine pu 0 (some 53) (ba 17 1) az (h:=?_)
         refine pu 1 (some 54) (ba 17 3) az (h:=?_)
         refine pu 2 (some 55) (ba 17 7) az (h:=?_)
         refine pu 3 (some 56) (ba 17 15) az (h:=?_)
         refine pu 5 (some 58) (ba 17 47) az (h:=?_)
         refine pu 6 (some 59) (ba 17 111) az (h:=?_)
         refine pu 7 (some 60) (ba 17 239) az (h:=?_)
         refine pu 8 (some 61) (ba 17 495) az (h:=?_)
         refine pu 9 (some 62) (ba 17 1007) az (h:=?_)
         refine ta 4 (some 57) (ba 17 1023) az dA hHeld (hy:=Or.inl ⟨by rfl,by rintro w' ⟨s0,s1⟩;go_simp;with_reducible rfl⟩) (h:=?_)
         refine ta 10 (some 63) (ba 17 2047) az dA hHeld (hy:=Or.inl ⟨by rfl,by rintro w' ⟨s0,s1⟩;go_simp;with_reducible rfl⟩) (h:=?_)
         refine ja (i:=11) (N:=some 64) (ba 17 4095) rfl rfl (hO az.out (by kernel_rfl)) (by decide) (fun K hK=>?_)
         refine mP Try.func167 (by kernel_rfl) rfl #[.int .i64 iH,.int .i64 (rd l0 dX),.int .i64 (rd l1 (oR))] (by rfl) rfl rfl (by (try simp only [List.map_toArray,List.map_cons,List.map_nil]);first|done|(simp only [td];rfl)|rfl|(simp only [List.length_drop,List.length_take];rfl)) ?_
         with_reducible refine (lC.calls k3 iH (rd l0 dX) (rd l1 (oR)) t109 true _ fI.z).mono ?_
         rintro e CO ⟨rfl,hb⟩
         refine ⟨_,rfl,?_⟩
         replace bz:=k0 (Kd.apn (aR bz.z) hb);replace HB:=k0 (aH bl hb)
         refine hK.out _ _ ⟨(hbc HB pR),(hbc HB sw)⟩ (fun hHeld=>?_)
         clear hK K
         refine jh (a':=?_) ?_ ?_
         rotate_left;· show Act.put _ (some 64) _=_;simp only [Act.put,zI,zZ,zS,cm,cO];rfl
         refine pu 12 (some 52) (ba 17 8191) az (h:=?_)
         refine pu 13 (some 65) (ba 17 16383) az (h:=?_)
         refine pu 14 (some 66) (ba 17 32767) az (h:=?_)
         refine pu 15 (some 8) (ba 17 65535) az (h:=?_)
         refine pu 16 (some 9) (ba 17 131071) az (h:=?_)
         refine lY (nj az.out (by kernel_rfl)) ?_
         try go_wp2
         first|go_roundg k3|(simp only [← uH];go_roundg k3)|(simp only [← wj];go_roundg k3)|(simp only [← td];go_roundg k3)
         case measure=>have:=tY.out;have:=cD.z;have:=iK.z;omega
         case rel=>exact ⟨(t109),(wrap64 (dX+1)),rs,rs,(by first|exact H'|(rw [uH];exact H')|(rw [wj];exact H')|(rw [td];exact H')),⟨by have:=tY.out;have:=cD.z;have:=iK.z;omega⟩,⟨aR (bz.z)⟩,⟨bl⟩⟩
    rw [if_pos c8] at H
    have kH:=decide_eq_true c8
    clear c8
    simp only [Option.some.injEq,Prod.mk.injEq] at H
    obtain ⟨rfl,rfl⟩:=H
    go_wp2
    go_ret2
    exact ⟨_,eR,by first|exact Kd.kO _ _ _ _ _|exact Kd.lG _ _ _ _ _|exact Kd.apy _ _ _ _ _|exact Kd.lH _ _ _ _ _|exact Kd.lf _ _ _ _ _,bl⟩
   subst c5
   have H1:(some ((([]:List Int)),true))=some (r1,r2):=by rw [if_pos rfl] at H;exact H
   clear H
   have H:=H1
   clear H1
   obtain ⟨iJ,j7⟩:∃ y_:List Int,y_=(([]:List Int)):=⟨_,rfl⟩
   replace H:(some (iJ,true))=some (r1,r2):=rH j7 H
   have jX:=k0 j7
   clear j7
   simp only [Option.some.injEq,Prod.mk.injEq] at H
   obtain ⟨rfl,rfl⟩:=H
   go_wp2_with (first|((with_reducible refine bp (N:=19) rfl ?_);(try (refine jC (by rfl) ?_;dsimp only));refine Kd.jr (Kd.int .i64) _ 2 ?hg (N:=19) ?hd (xs:=([]:List Int)) (inner:=[]) (ok:=fun _=>True) (b_:=fun _=>True) ?hr ?hp (fun _ hk=>hk) trivial (Below.refl _ _) (Nat.le_refl _) (by simp) ?_;(case hd=>rfl);(case hg=>rfl);(case hr=>first|(go_simp;done)|(go_simp;rfl));(case hp=>exact (bh.none _ _));intro o5 w6 pQ hb cJ cK;clear cJ cK;(first|rw [← jX.z] at pQ|(simp only [Int.reduceToNat] at pQ;rw [← jX.z] at pQ));have eJ:=k0 (Kd.cU pQ (aoS bl));replace HB:=k0 (aH bl hb);clear hb pQ))
   go_ret2
   exact ⟨_,eR,by (with_reducible repeat (first|apply Kd.dK|apply Kd.dD|apply Kd.cB));exact eJ.z,bl⟩
end Go.Proofs.Ytoebojnhchocaaa.E
/- Set with little white space, by a program. -/
