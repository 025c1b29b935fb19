/- The functions that one law reaches, each as a Lean function, and that Go's call comes to what it says. Condition of each: that the Lean function answers (is not none). -/
import Derived.Test.YtoebojnhchocaaaDx0
import Derived.Test.YtoebojnhchocaaaDx4
namespace Go.Proofs.Ytoebojnhchocaaa.D
open Go.RowKit Go.Proofs.bR.eC Go.Proofs.bR.je Go.Proofs.bR.jO
attribute [local go_sem] max2_int min2_int max_two min_two max_three min_three max_four min_four   -- for this text's walks alone
set_option linter.unusedVariables false
set_option linter.unusedSimpArgs false
/-! ### F175: function 175 -/
mutual
def cW.l0 : Nat → List (List Int) → List Bool → Int → List Int → Int → Option (List Int)
 | 0,_,_,_,_,_=>none
 | k+1,x0,x2,x3,x9,dS=>if dS < (x0.length:Int) then (cW.l1 k x0 x2 x3 x9 dS 0) else (some x9)
def cW.l1 : Nat → List (List Int) → List Bool → Int → List Int → Int → Int → Option (List Int)
 | 0,_,_,_,_,_,_=>none
 | k+1,x0,x2,x3,x9,dS,eO=>if eO < (x0.length:Int) then (if 0≤dS then (if dS < (8:Int) then (if nQ false x2 dS=true then (if 0≤eO then (if eO < (x9.length:Int) then (if dS < (x0.length:Int) then (if eO < ((ah x0 dS).length:Int) then (cW.l1 k x0 x2 x3 (x9.set (eO:Int).toNat (wrap64 ((rd x9 eO) - (wrap64 (x3 * (rd (ah x0 dS) eO)))))) dS (wrap64 (eO+1))) else (none)) else (none)) else (none)) else (none)) else (cW.l0 k x0 x2 x3 x9 (wrap64 (dS+1)))) else (none)) else (none)) else (cW.l0 k x0 x2 x3 x9 (wrap64 (dS+1)))
end
def cW.fA (k:Nat) (l0:List (List Int)) (l1:List Int) (l2:List Bool) (a3:Int):Option (List Int):=(p5.f l1).bind fun t101=>(cW.l0 k l0 l2 a3 t101 0)
theorem cW.bU : ∀ k, (∀ y0 y1 y2 y3 y4, aj (cW.l0 k y0 y1 y2 y3 y4) (cW.l0 (k + 1) y0 y1 y2 y3 y4)) ∧ (∀ y0 y1 y2 y3 y4 y5, aj (cW.l1 k y0 y1 y2 y3 y4 y5) (cW.l1 (k + 1) y0 y1 y2 y3 y4 y5))
 | 0=>⟨fun _ _ _ _ _ r h=>by simp [cW.l0] at h,fun _ _ _ _ _ _ r h=>by simp [cW.l1] at h⟩
 | k+1=>by
  obtain ⟨alg,ih1⟩:=cW.bU k
  refine ⟨?_, ?_⟩ <;> intros <;> (first | unfold cW.l0 | unfold cW.l1) <;> repeat' first
   | (with_reducible first|exact alg _ _ _ _ _|exact ih1 _ _ _ _ _ _|exact aj.refl _|exact aj.none _|refine aj.ite ?_ ?_|refine aj.bind ?_ (fun _=>?_))
   | exact alg _ _ _ _ _|exact ih1 _ _ _ _ _ _|exact aj.none _|refine aj.ite ?_ ?_|refine aj.bind ?_ (fun _=>?_)
theorem cW.Br:∀ a0 a1 a2 a3 k,aj (cW.fA k a0 a1 a2 a3) (cW.fA (k+1) a0 a1 a2 a3):=by
 intro a0 a1 a2 a3 k
 obtain ⟨alg,ih1⟩:=cW.bU k
 unfold cW.fA
 repeat' first
  | (with_reducible first|exact alg _ _ _ _ _|exact ih1 _ _ _ _ _ _|exact aj.refl _|exact aj.none _|refine aj.ite ?_ ?_|refine aj.bind ?_ (fun _=>?_))
  | exact alg _ _ _ _ _|exact ih1 _ _ _ _ _ _|exact aj.none _|refine aj.ite ?_ ?_|refine aj.bind ?_ (fun _=>?_)
def cW.T8:Bool × List (List Nat × List Nat):=(true,[([],[]),([],[]),([],[]),([],[]),([2,3],[2,3]),([4],[4]),([],[]),([],[]),([],[]),([7,8],[7,8]),([9],[9]),([],[]),([10,11],[10,11]),([12],[12]),([6,13],[6,13]),([5,14],[5,14]),([0,1,0,1,2,3,4,5,6,7,8,9,10,11,12,13,14,15],[0,1]),([16,15,0,1,2,3,4,5,6,7,8,9,10,11,12,13,14,15],[15,16])])
def cW.B8:List Nat:=[0,0,0,0,12,28,0,0,0,384,896,0,3968,8064,16320,32764,65535,131071]
theorem cW.Ex:gv .any (opsOf Try.f175 8)=cW.T8:=by kernel_rfl
theorem cW.Ch:mN cW.T8.2 cW.B8=true:=by kernel_rfl
set_option maxHeartbeats 8000000 in
set_option maxRecDepth 100000 in
theorem cW.yu (k : Nat) (A0 : Option Addr) (c0 : Nat) (l0 : List (List Int)) (A1 : Option Addr) (c1 : Nat) (l1 : List Int) (l2 : List Bool) (a3 : Int) (r : List Int) (W0 : World) (cS : Kd.C (Kd.slice 2 (Kd.int .i64)) W0 A0 l0.length l0) (hc0 : l0.length ≤ c0) (c_ : Kd.C (Kd.int .i64) W0 A1 l1.length l1) (eY : l1.length ≤ c1) (F2 : l2.length = 8) (h : cW.fA k l0 l1 l2 a3 = some r) :
  Calls Try.prog 175 #[.slice A0 l0.length c0,.slice A1 l1.length c1,.agg (l2.map Value.bool).toArray,.int .i64 a3] W0 fun e w'=>∃ dH:Value,e=.returned (dH)∧Kd.R (Kd.int .i64) 2 w' W0.heap.size (fun _=>True) dH r∧Below W0.heap.size W0 w':=by
 have fe:=k0 cS
 have alR:=k0 hc0
 clear cS hc0
 have eP:=k0 c_
 have kT:=k0 eY
 clear c_ eY
 have H:((p5.f l1).bind fun t101=>(cW.l0 k l0 l2 a3 t101 0))=some r:=h
 clear h
 replace H:=Option.bind_eq_some_iff.mp H
 obtain ⟨t101,p4,H⟩:=H
 replace H:(cW.l0 k l0 l2 a3 t101 0)=some r:=H
 have A5:=k0 p4
 clear p4
 have H':=k0 H
 clear H
 go_enter Try.func175,Try.ntmps175
 go_wp2_with (first|((with_reducible refine cj (N:=6) rfl ?_);refine dK ?hg (N:=6) ?hd (cs:=(l2.map Value.bool).toArray) (t:=133) ?hr ?_;(case hd=>rfl);(case hg=>rfl);(case hr=>first|(go_simp;done)|(go_simp;rfl));intro gb hg w aJ hb;have HW:=k0 hb;have MZ:=k0 aJ;clear hb aJ hg;replace fe:=k0 (Kd.bK fe.out HW.out);replace eP:=k0 (Kd.bK eP.out HW.out);have HB:=k0 (Below.refl w.heap.size w))|((with_reducible refine dx (f:=173) rfl ?_);refine dy (some 13) rfl rfl Try.func173 (by kernel_rfl) rfl #[.slice A1 l1.length c1] rfl gm ?_;(with_reducible refine (p5.calls _ _ l1 t101 _ ?aT ?aU A5.out).mono ?_);(case aT=>exact aC eP.out);(case aU=>exact kT.out);rintro e w6 ⟨mg,rfl,aM,hb⟩;refine ⟨_,rfl,?_⟩;have kU:=k0 (Kd.dI aM (alk bl));replace HB:=k0 (aI bl hb);(try clear hb);(try clear aM)))
 go_loopg [10] k (fun kq v10 w'=>∃ (oK:List Int) (eJ:Int),v10=.int .i64 eJ∧au (cW.l0 kq l0 l2 a3 oK eJ=some r)∧au (kq≤k)∧au (Kd.R (Kd.int .i64) 2 w' w.heap.size (fun _=>True) mg oK)∧au (Below w.heap.size w w'))
 case atStart=>exact ⟨(t101),(0),rs,H',⟨Nat.le_refl _⟩,⟨aR (kU.out)⟩,⟨bl⟩⟩
 case round =>
  clear H'
  obtain ⟨oK,eJ,rfl,HA,alj,cA,HB⟩:=hrel
  cases gk with
  | zero=>exact absurd HA.out (by simp [cW.l0])
  | succ k1 =>
   have H:=HA.out
   clear HA
   simp only [cW.l0] at H
   by_cases c7:eJ < (l0.length:Int)
   case neg =>
    rw [if_neg c7] at H
    have alJ:decide (eJ < (l0.length:Int))=false:=decide_eq_false c7
    clear c7
    obtain rfl:=Option.some.inj H
    go_wp2
    go_ret
    exact ⟨_,by first|rfl|(simp [bz,bA]<;>rfl)|(simp [*,bz,bA]<;>rfl),by (with_reducible repeat (first|apply Kd.bH|apply Kd.bL|apply Kd.bn));exact Kd.dI cA.out (alk HW.out),aI HW.out bl⟩
   rw [if_pos c7] at H
   have alJ:=decide_eq_true c7
   clear c7
   have H':=k0 H
   clear H
   go_wp2
   go_loopg [11] k1 (fun kq v11 w'=>∃ (al1:List Int) (fG:Int),v11=.int .i64 fG∧au (cW.l1 kq l0 l2 a3 al1 eJ fG=some r)∧au (kq≤k1)∧au (Kd.R (Kd.int .i64) 2 w' w.heap.size (fun _=>True) mg al1)∧au (Below w.heap.size w w'))
   case atStart=>exact ⟨(oK),(0),rs,H',⟨Nat.le_refl _⟩,⟨aR (cA.out)⟩,⟨bl⟩⟩
   case round =>
    clear H'
    (try clear c7);(try clear alJ)
    obtain ⟨al1,fG,rfl,HA,bB,cA,HB⟩:=hrel
    cases gk with
    | zero=>exact absurd HA.out (by simp [cW.l1])
    | succ k2 =>
     have H:=HA.out
     clear HA
     simp only [cW.l1] at H
     by_cases c8:fG < (l0.length:Int)
     case neg =>
      rw [if_neg c8] at H
      have jg:decide (fG < (l0.length:Int))=false:=decide_eq_false c8
      clear c8
      have H':=k0 H
      clear H
      go_wp2
      go_roundg k2
      case measure=>have:=alj.out;have:=bB.out;omega
      case rel=>exact ⟨(al1),(wrap64 (eJ+1)),rs,H',⟨by have:=alj.out;have:=bB.out;omega⟩,⟨aR (cA.out)⟩,⟨bl⟩⟩
     rw [if_pos c8] at H
     have jg:=decide_eq_true c8
     clear c8
     replace H:=iS H;obtain ⟨c9,H⟩:=H
     have mD:=decide_eq_true c9
     clear c9
     replace H:=iS H;obtain ⟨c10,H⟩:=H
     have lO:=decide_eq_true c10
     clear c10
     obtain ⟨Ow,Ke⟩:∃ b_:Bool,b_=(nQ false l2 eJ):=⟨_,rfl⟩
     replace H:(if Ow=true then (if 0≤fG then (if fG < (al1.length:Int) then (if eJ < (l0.length:Int) then (if fG < ((ah l0 eJ).length:Int) then (cW.l1 k2 l0 l2 a3 (al1.set (fG:Int).toNat (wrap64 ((rd al1 fG) - (wrap64 (a3 * (rd (ah l0 eJ) fG)))))) eJ (wrap64 (fG+1))) else (none)) else (none)) else (none)) else (none)) else (cW.l0 k2 l0 l2 a3 al1 (wrap64 (eJ+1))))=some r:=by rw [← Ke] at H;exact H
     have NY:=k0 Ke
     clear Ke
     by_cases c12:Ow=true
     case neg =>
      replace c12:=Bool.eq_false_iff.mpr c12
      subst c12
      have H1:(cW.l0 k2 l0 l2 a3 al1 (wrap64 (eJ+1)))=some r:=by rw [if_neg (show ¬ (false=true) by decide)] at H;exact H
      clear H
      have H:=H1
      clear H1
      have H':=k0 H
      clear H
      have cT:0≤(eJ:Int):=oD
      have cU:eJ < (8:Int):=oD
      have cM:=Om MZ.out eJ cT (by rw [F2];exact cU)
      (try rw [← NY.out] at cM)
      replace cM:=hbc HB cM
      replace cT:=eq_true cT
      replace cU:=eq_true cU
      go_wp2
      go_roundg k2
      case measure=>have:=alj.out;have:=bB.out;omega
      case rel=>exact ⟨(al1),(wrap64 (eJ+1)),rs,H',⟨by have:=alj.out;have:=bB.out;omega⟩,⟨aR (cA.out)⟩,⟨bl⟩⟩
     subst c12
     have H1:(if 0≤fG then (if fG < (al1.length:Int) then (if eJ < (l0.length:Int) then (if fG < ((ah l0 eJ).length:Int) then (cW.l1 k2 l0 l2 a3 (al1.set (fG:Int).toNat (wrap64 ((rd al1 fG) - (wrap64 (a3 * (rd (ah l0 eJ) fG)))))) eJ (wrap64 (fG+1))) else (none)) else (none)) else (none)) else (none))=some r:=by rw [if_pos rfl] at H;exact H
     clear H
     have H:=H1
     clear H1
     replace H:=iS H;obtain ⟨c13,H⟩:=H
     have alV:=decide_eq_true c13
     clear c13
     replace H:=iS H;obtain ⟨c14,H⟩:=H
     have kH:=decide_eq_true c14
     clear c14
     replace H:=iS H;obtain ⟨c15,H⟩:=H
     have jD:=decide_eq_true c15
     clear c15
     replace H:=iS H;obtain ⟨c16,H⟩:=H
     have qY:=decide_eq_true c16
     clear c16
     obtain ⟨mQ,alM⟩:∃ y_:List Int,y_=(al1.set (fG:Int).toNat (wrap64 ((rd al1 fG) - (wrap64 (a3 * (rd (ah l0 eJ) fG)))))):=⟨_,rfl⟩
     replace H:(cW.l1 k2 l0 l2 a3 mQ eJ (wrap64 (fG+1)))=some r:=by first|(rw [alM];with_reducible exact H)|(have ax:=(Option.bind_some _ _).symm.trans H;rw [alM];with_reducible exact ax)|(have ax:=(Option.bind_some _ _).symm.trans H;with_reducible exact ax)|with_reducible exact H|(rw [alM];exact H)|exact H
     have sA:=k0 alM
     clear alM
     have H':=k0 H
     clear H
     have cT:0≤(eJ:Int):=oD
     have cU:eJ < (8:Int):=oD
     have cM:=Om MZ.out eJ cT (by rw [F2];exact cU)
     (try rw [← NY.out] at cM)
     replace cM:=hbc HB cM
     replace cT:=eq_true cT
     replace cU:=eq_true cU
     try go_wp2
     replace cA:=k0 (Kd.bn cA.out);replace HB:=k0 (cP HB.out)
     obtain ⟨zQ,sH,AM⟩:=Kd.eF cA.out
     (first|subst AM|(injection AM with alT om jQ;have oo:=alT.symm;have oq:=jQ.symm;clear alT om jQ;subst oo;subst oq))
     have alz:0≤(fG:Int):=oD
     have cV:fG < (al1.length:Int):=oD
     obtain ⟨kG,e105,dW⟩:=Kd.bJ (Kd.bx cA.out).2.2 fG alz cV
     cases e105
     replace alz:=eq_true alz
     replace cV:=eq_true cV
     have dM:0≤(eJ:Int):=oD
     have dD:eJ < (l0.length:Int):=oD
     obtain ⟨gA,Hl,Cl,e106,dA,amr,aml⟩:=cX fe.out eJ dM dD
     have tu:=dA
     cases e106
     replace dA:=hbc HB dA
     have oO:=k0 aml
     have anL:=k0 amr
     clear aml amr
     replace dM:=eq_true dM
     replace dD:=eq_true dD
     have gi:0≤(fG:Int):=oD
     have gl:fG < ((ah l0 eJ).length:Int):=oD
     obtain ⟨pH,e107,fN⟩:=Kd.bJ oO.out fG gi gl
     have tv:=fN
     cases e107
     replace fN:=hbc HB fN
     replace gi:=eq_true gi
     replace gl:=eq_true gl
     have LF:0≤(fG:Int):=oD
     have LV:(fG:Int) < ((al1.length:Int):Int):=oD
     obtain ⟨ZG,Cs,FC,PB,Zv,ag9,Ng⟩:=Kd.lp cA.out (by omega)
     (first|cases FC|(injection FC with bh dm di;(first|subst bh|(injection bh with bh;subst bh));subst di;clear dm))
     have UL:=k0 PB
     have UU:=k0 Ng
     clear PB Zv Ng
     (first|simp only [add_plain] at dW|skip)
     obtain ⟨ab8,aa5⟩:=Kd.jB 0 cA.out (fG:Int) LF LV
     replace LF:=eq_true LF
     replace LV:=eq_true LV
     have Ig:=Kd.Ag cA.out (fG:Int) (wrap64 ((rd al1 fG) - (wrap64 (a3 * (rd (ah l0 eJ) fG)))))
     rw [← sA.out] at Ig
     have NF:=k0 Ig
     clear Ig
     refine lU (n:=18) (S:=fun w'=>w'.cell? ⟨ZG,(fG).toNat,none⟩=some (.int .i64 (rd al1 fG))∧w'.cell? (gA.add (eJ).toNat)=some (.slice (some pH) (ah l0 eJ).length Cl)∧w'.cell? (pH.add (fG).toNat)=some (.int .i64 (rd (ah l0 eJ) fG))) (ds:=[17]) (ba 18 0) (by kernel_rfl) rfl rfl ⟨dW,(hbc HB tu),(hbc HB tv)⟩ (fun hHeld=>?_);refine pW cW.Ex cW.Ch (fun ay cZ=>?_)
     generalize wr.drew=zF at cA HB UU NF oO aa5 dW dA fN ab8 hHeld ⊢
     refine pu 0 (some 31) (ba 18 1) ay (h:=?_)
     refine pu 1 (some 32) (ba 18 3) ay (h:=?_)
     refine pu 2 (some 33) (ba 18 7) ay (h:=?_)
     refine pu 3 (some 34) (ba 18 15) ay (h:=?_)
     refine pu 4 (some 35) (ba 18 31) ay (h:=?_)
     refine pu 6 (some 37) (ba 18 95) ay (h:=?_)
     refine pu 7 (some 38) (ba 18 223) ay (h:=?_)
     refine pu 8 (some 39) (ba 18 479) ay (h:=?_)
     refine pu 9 (some 40) (ba 18 991) ay (h:=?_)
     refine pu 11 (some 42) (ba 18 3039) ay (h:=?_)
     refine ta 5 (some 36) (ba 18 3071) ay cZ hHeld (hy:=Or.inl ⟨by rfl,by rintro w' ⟨s0,s1,s2⟩;go_simp;with_reducible rfl⟩) (h:=?_)
     refine ta 10 (some 41) (ba 18 4095) ay cZ hHeld (hy:=Or.inl ⟨by rfl,by rintro w' ⟨s0,s1,s2⟩;go_simp;with_reducible rfl⟩) (h:=?_)
     refine pu 12 (some 43) (ba 18 8191) ay (h:=?_)
     refine ta 13 (some 44) (ba 18 16383) ay cZ hHeld (hy:=Or.inl ⟨by rfl,by rintro w' ⟨s0,s1,s2⟩;go_simp;with_reducible rfl⟩) (h:=?_)
     refine pu 14 (some 45) (ba 18 32767) ay (h:=?_)
     refine pu 15 (some 46) (ba 18 65535) ay (h:=?_)
     refine pu 16 (some 47) (ba 18 131071) ay (h:=?_)
     refine qE (i:=17) (N:=none) (ba 18 262143) rfl rfl (kg ay.out (by kernel_rfl)) (by decide) (fun K hK=>?_)
     refine pV (w1:=?_) (by rfl) rfl ?_ ?_
     rotate_left;· go_simp;rfl
     refine hK.out _ _ ?_
     clear hK K
     refine lQ (pN ay.out (by kernel_rfl)) ?_
     try go_wp2
     go_roundg k2
     case measure=>have:=alj.out;have:=bB.out;omega
     case rel=>exact ⟨(mQ),(wrap64 (fG+1)),rs,H',⟨by have:=alj.out;have:=bB.out;omega⟩,⟨aR (NF.out)⟩,⟨by repeat (first|(with_reducible first|exact HB.out|apply dh|apply ek|apply cP|refine dJ ?_ UL.out)|exact HB.out)⟩⟩
def cW.f (k:Nat) (l0:List (List Int)) (l1:List Int) (a2 a3:Int):Option (List Int):=cW.fA k l0 l1 ((List.replicate 8 false).set a2.toNat true) a3
theorem cW.mono:∀ a0 a1 a2 a3 k,aj (cW.f k a0 a1 a2 a3) (cW.f (k+1) a0 a1 a2 a3):=fun a0 a1 _ a3 k=>cW.Br a0 a1 _ a3 k
set_option maxHeartbeats 8000000 in
set_option maxRecDepth 100000 in
theorem cW.calls (k : Nat) (A0 : Option Addr) (c0 : Nat) (l0 : List (List Int)) (A1 : Option Addr) (c1 : Nat) (l1 : List Int) (a2 : Int) (a3 : Int) (r : List Int) (w : World) (cS : Kd.C (Kd.slice 2 (Kd.int .i64)) w A0 l0.length l0) (hc0 : l0.length ≤ c0) (c_ : Kd.C (Kd.int .i64) w A1 l1.length l1) (eY : l1.length ≤ c1) (h : cW.f k l0 l1 a2 a3 = some r) :
  Calls Try.prog 175 #[.slice A0 l0.length c0,.slice A1 l1.length c1,.agg (((List.replicate 8 false).set a2.toNat true).map Value.bool).toArray,.int .i64 a3] w fun e w'=>∃ dH:Value,e=.returned (dH)∧Kd.R (Kd.int .i64) 2 w' w.heap.size (fun _=>True) dH r∧Below w.heap.size w w':=by
 exact cW.yu k A0 c0 l0 A1 c1 l1 _ a3 r w cS hc0 c_ eY (by simp) h
end Go.Proofs.Ytoebojnhchocaaa.D
/- Set with little white space, by a program. -/
